/- Parts of the proof, laid together. -/
import Derived.Test.YtfdfgobnpnoomaaGreatAvb
import Derived.MapKept
import Derived.RangeFuncIn
set_option linter.all false

namespace Go.Av
open MapKept
noncomputable def Xqe (k v:Value):List (Value×Value)->List (Value×Value)
 |[]=>[(k,v)]
 |(a,b)::r=>open Classical in if a=k then (k,v)::r else (a,b)::Xqe k v r
noncomputable def getV (k:Value):List (Value×Value)->Option Value
 |[]=>none
 |(a,b)::r=>open Classical in if a=k then some b else getV k r
theorem Xzx {k v:Value}:∀ (l:List (Value×Value)) (j:Nat) (p:Value×Value),l[j]?=some p->p.1=k->(∀ i q,i<j->l[i]?=some q->q.1≠k)->Xqe k v l=l.set j (k,v)/\getV k l=some p.2:=by
 intro l
 induction l with
 |nil=>intro j p h;simp at h
 |cons a r ih =>
  obtain⟨a1,a2⟩:=a
  intro j p h hk hn
  cases j with
  |zero=>simp at h;subst h;simp only at hk;simp[Xqe,getV,hk]
  |succ j =>
   have h0:a1≠k:=hn 0 (a1,a2) (Nat.succ_pos j) rfl
   obtain⟨h1,h2⟩:=ih j p (by simpa using h) hk (fun i q hi hq=>hn (i+1) q (Nat.succ_lt_succ hi) (by simpa using hq))
   simp[Xqe,getV,h0,h1,h2]
theorem Xwx {k v:Value}:∀ (l:List (Value×Value)),(∀ q∈l,q.1≠k)->Xqe k v l=l++[(k,v)]/\getV k l=none:=by
 intro l
 induction l with
 |nil=>intro _;exact⟨rfl,rfl⟩
 |cons a r ih =>
  obtain⟨a1,a2⟩:=a
  intro hn
  have h0:a1≠k:=hn (a1,a2) (by simp)
  obtain⟨h1,h2⟩:=ih (fun q hq=>hn q (List.mem_cons_of_mem _ hq))
  simp[Xqe,getV,h0,h1,h2]
theorem Xkr {d:TypeDesc} {k:Value} (hk:IsKey d k):∀ (l:List MapEntry) (i:Nat),(∀ x∈l,IsKey d x.key) ->
  (Instr.findNow d k l i=some none/\∀ x∈l,x.key≠k)\/∃ j e,Instr.findNow d k l i=some (some (i+j,e.val))/\l[j]?=some e/\e.key=k/\∀ m x,m<j->l[m]?=some x->x.key≠k:=by
 intro l
 induction l with
 |nil=>intro i _;exact .inl ⟨rfl,by simp⟩
 |cons e es ih =>
  intro i h
  obtain⟨r,hr,hiff⟩:=sameNow_of_keys hk (h e (by simp))
  cases r with
  |true=>exact .inr ⟨0,e,by simp[Instr.findNow,hr],rfl,(hiff.1 rfl).symm,fun m x hm=>absurd hm (Nat.not_lt_zero m)⟩
  |false =>
   have hne:e.key≠k:=fun q=>by have:=hiff.2 q.symm;cases this
   rcases ih (i+1) (fun x hx=>h x (List.mem_cons_of_mem _ hx)) with ⟨h1,h2⟩|⟨j,e',h1,h2,h3,h4⟩
   ·exact .inl ⟨by simp[Instr.findNow,hr,h1],fun x hx=>by
     rcases List.mem_cons.1 hx with rfl|hx
     ·exact hne
     ·exact h2 x hx⟩
   ·refine .inr ⟨j+1,e',by simp[Instr.findNow,hr,h1];omega,by simpa using h2,h3,fun m x hm hx=>?_⟩
    cases m with
    |zero=>simp at hx;subst hx;exact hne
    |succ m=>exact h4 m x (by omega) (by simpa using hx)
theorem Xld {d:TypeDesc} {k:Value} (hk:IsKey d k) (n:Nat):Instr.sameBits (n+1) k k=true:=by
 cases d<;>cases k<;>simp_all [IsKey,Instr.sameBits,bytes_beq]
theorem Xfe {P:Program} {w:World} {b:Nat} {l:List (Value×Value)} {t kt et:TypeId} {d:TypeDesc} {k v:Value} (hm:P.underlying t=some (.map kt et)) (hd:P.underlying kt=some d)
  (hM:Xse w b l) (hk:IsKey d k) (hks:∀ p∈l,IsKey d p.1) :
  ∃ o',(Instr.mapUpdate t (.map (some b)) k v).run P w=.ok () { w with heap:=w.heap.setIfInBounds b o' }/\Xse { w with heap:=w.heap.setIfInBounds b o' } b (Xqe k v l):=by
 obtain⟨es,clock,hb,hl,hp,hc⟩:=hM
 have hes:∀ x∈es.toList,IsKey d x.key:=fun x hx=>hks (x.key,x.val) (by rw[<-hl];exact List.mem_map.2 ⟨x,hx,rfl⟩)
 have hset:∀ o',(w.heap.setIfInBounds b o')[b]?=some o':=fun o'=>(heap_set (o':=o') hb).1
 rcases Xkr hk es.toList 0 hes with ⟨h1,h2⟩|⟨j,e,h1,h2,h3,h4⟩
 ·refine⟨.map (es.push { key:=k,val:=v,born:=clock }) (clock+1),?_,es.push { key:=k,val:=v,born:=clock },clock+1,hset _,?_,?_,?_⟩
  ·simp[Instr.mapUpdate,run_underlying hm,MapKept.run_getObj_map hb,run_checkKey hd hk,run_findKey hd h1,MapKept.run_setObj_map _ hb]
  ·rw[Array.toList_push,List.map_append,hl]
   rw[(Xwx (v:=v) l (fun q hq=>by
    rw[<-hl] at hq
    obtain⟨x,hx,rfl⟩:=List.mem_map.1 hq
    exact h2 x hx)).1]
   rfl
  ·rw[Array.toList_push]
   exact List.pairwise_append.2 ⟨hp,List.pairwise_singleton _ _,fun a ha b' hb'=>by rw[List.mem_singleton.1 hb'];exact hc a ha⟩
  ·intro x hx
   rw[Array.toList_push,List.mem_append] at hx
   rcases hx with hx|hx
   ·exact Nat.lt_succ_of_lt (hc x hx)
   ·rw[List.mem_singleton.1 hx];exact Nat.lt_succ_self _
 ·have he:es[j]?=some e:=by simpa using h2
  have hlj:l[j]?=some (e.key,e.val):=by rw[<-hl,List.getElem?_map,h2];rfl
  have hm2:(es.modify j fun e=>{ e with key:=k,val:=v }).toList=es.toList.modify j fun e=>{ e with key:=k,val:=v }:=by simp
  refine⟨.map (es.modify j fun e=>{ e with key:=k,val:=v }) clock,?_,es.modify j fun e=>{ e with key:=k,val:=v },clock,hset _,?_,?_,?_⟩
  ·have hst:(Instr.keyThatStays k k).run P w=.ok k w:=by simp[Instr.keyThatStays,Xld hk]
   simp only[Nat.zero_add] at h1
   simp[Instr.mapUpdate,run_underlying hm,MapKept.run_getObj_map hb,run_checkKey hd hk,run_findKey hd h1,he,h3,hst,MapKept.run_setObj_map _ hb]
  ·rw[hm2,(Xzx (v:=v) l j _ hlj h3 (fun i q hi hq=>by
    rw[<-hl,List.getElem?_map] at hq
    cases hx:es.toList[i]? with
    |none=>rw[hx] at hq;cases hq
    |some x=>rw[hx] at hq;cases hq;exact h4 i x hi hx)).1,<-hl]
   apply List.ext_getElem?
   intro i
   simp only[List.getElem?_map,List.getElem?_modify,List.getElem?_set]
   by_cases hij:j=i
   ·subst hij
    have hlt:j<es.toList.length:=(List.getElem?_eq_some_iff.1 h2).1
    simp[he] at *
    simpa using hlt
   ·simp[hij]
  ·rw[hm2]
   refine List.pairwise_iff_getElem.2 fun i i' hi hi' hlt=>?_
   have:=List.pairwise_iff_getElem.1 hp i i' (by simpa using hi) (by simpa using hi') hlt
   simp only[List.getElem_modify]
   split<;>split<;>exact this
  ·intro x hx
   rw[hm2] at hx
   obtain⟨i,hi⟩:=List.getElem?_of_mem hx
   rw[List.getElem?_modify] at hi
   cases hy:es.toList[i]? with
   |none=>rw[hy] at hi;simp at hi
   |some y =>
    rw[hy] at hi
    have:=hc y (List.mem_of_getElem? hy)
    by_cases hij:j=i
    ·simp[hij] at hi;rw[<-hi];exact this
    ·simp[hij] at hi;rw[<-hi];exact this
theorem Inv.aside {c:Ctx} {H:X0b} {M:Nat->Prop} (hI:Inv c H M) {b:Nat} {w':World} (hsz:w'.heap.size=c.w.heap.size) (hw:∀ q,q≠b->w'.heap[q]?=c.w.heap[q]?) (hsa:¬ c.Sa b/\¬ c.So b) (hob:∀ o x,H o=some x->(c.ρ o).blk≠b) :
  c.Le M { c with w:=w' }/\Inv { c with w:=w' } H M:=by
 have hle:c.Le M { c with w:=w' }:=⟨fun _ _=>rfl,fun _ h=>h,fun _ h=>h,fun q hq=>hw q (fun e=>by subst e;exact hq.elim hsa.1 hsa.2),rfl⟩
 refine⟨hle,⟨?_,hI.sep,hI.stab,fun q hq=>by have:=hI.lt q hq;simp only[hsz];exact this,by have:=hI.base;simp only[hsz];exact this,hI.own,hI.low⟩⟩
 intro p x hx
 obtain⟨h1,⟨⟨cur,hb,hs,hc⟩,h3,h4,h5⟩,h6⟩:=hI.obj p x hx
 refine⟨h1,⟨⟨cur,?_,hs,?_⟩,h3,h4,h5⟩,h6⟩
 ·show w'.heap[(c.ρ p).blk]?=_
  rw[hw _ (hob p x hx)];exact hb
 ·intro i e he
  obtain⟨g1,g2⟩:=hc i e he
  exact⟨g1,fun k a ha=>by obtain⟨v,hv,hr,h7⟩:=g2 k a ha;exact⟨v,hv,hr.mono hle (.inr (h6 e (List.mem_of_getElem? he) a (List.mem_of_getElem? ha))),h7⟩⟩
section
variable {P:Program} {nt n0:Nat} {Q:Xy->St->Mu->Prop} {ops:Array Oper} {l:List Oper} {o:Oper} {K:List Kn} {L:List (Nat×AV)} {G:List (Nat×Obj)} {n:Nat} {μ:Mu}
theorem Xer {P:Program} (t:TypeId) (w:World):(Instr.makeMap t none).run P w=.ok (.map (some w.heap.size)) (w.alloc (.map #[] 0)):=rfl
theorem X2.mapNew {t:Nat} (ho:o.op=.makeMap t none) (hg:o.guard=none) (hd:Xeq nt o.dst=true)
  (h:∀ b,X2 P nt n0 Q (.ops ops l) K ⟨fr (Xyx o.dst (.sc (.map (some b))) L),hp G,n⟩ ((b,.map [])::μ)):X2 P nt n0 Q (.ops ops (o::l)) K ⟨fr L,hp G,n⟩ μ:=by
 intro c0 H0 c act g hm Qx hQ R hR
 refine X35 fun K' hK'=>?_
 rw[if_pos (by simp[Region.wanted,hg])]
 have hrun:(execOp act.eval o).run P c.w=.ok (.value (.map (some c.w.heap.size))) (c.w.alloc (.map #[] 0)):=by
  obtain⟨dst,op,type,pos,after,guard⟩:=o
  simp only at ho
  subst ho
  simp only[execOp,Sem.run_bind,Xer]
  rfl
 refine Oper.wpR (fun d hd=>by rw[hd] at ho;cases ho) ?_
 unfold Oper.wp
 rw[hrun]
 obtain⟨h1,h2,h3⟩:=g.inv.waste (w':=c.w.alloc (.map #[] 0)) (.map #[] 0) rfl rfl rfl ⟨rfl,Nat.le_refl _⟩
 have g2:=(g.rebase).next (c':={ c with w:=c.w.alloc (.map #[] 0) }) (dst:=o.dst) (a:=.sc (.map (some c.w.heap.size))) (v:=.map (some c.w.heap.size)) (X6j hd) h1 rfl (fun b hb=>.inl hb) h3 (fun q x hx=>.inr ⟨q,x,hx,rfl⟩) h2 g.solo (Nat.le_refl _) .sc .sc
 have hk:=hm.kept g2.reach
 have hnew:(c.w.alloc (.map #[] 0)).heap[c.w.heap.size]?=some (.map #[] 0):=(heap_alloc c.w _).1
 have hb:=h c.w.heap.size
 rw[X6c] at hb
 refine hK' _ _ (hb c0 H0 { c with w:=c.w.alloc (.map #[] 0) } _ (.join g.reach g2) ⟨?_,?_,?_,(put_defers _ _ _).trans hm.ds⟩ Qx hQ R hR)
 ·intro p hp
  rcases List.mem_cons.1 hp with rfl|hp
  ·exact⟨#[],0,hnew,rfl,List.Pairwise.nil,fun e he=>by simp at he⟩
  ·exact hk.is p hp
 ·intro p hp
  rcases List.mem_cons.1 hp with rfl|hp
  ·refine⟨fun hs=>Nat.lt_irrefl _ (g.inv.lt _ (.inl hs)),fun hs=>Nat.lt_irrefl _ (g.inv.lt _ (.inr hs)),fun q x hx he=>?_,g.reach.size⟩
   obtain⟨_,⟨⟨cur,hcb,_⟩,_,_,_⟩,_⟩:=g.inv.obj q x hx
   have he':(c.ρ q).blk=c.w.heap.size:=he
   rw[he'] at hcb
   simp at hcb
  ·exact hk.away p hp
 ·refine List.nodup_cons.2 ⟨fun hmem=>?_,hk.nodup⟩
  obtain⟨p,hp,he⟩:=List.mem_map.1 hmem
  have:=(hm.is p hp).lt
  simp only at he
  omega
theorem X2.mapUpd {T:Ty} {t b kt et:Nat} {m k x:Operand} {qm qk qx:List Prop} {kv xv:Value} {es:List (Value×Value)} {ti:TI} {d:TypeDesc} (hT:X9s P T) (ho:o.op=.mapUpdate t m k x) (hg:o.guard=none) (hd:o.dst=none)
  (ht:T t=some ti) (hkd:ti.kind=.map kt et) (hu:P.underlying kt=some d)
  (hm:rd L m=(.sc (.map (some b)),qm)) (hk:rd L k=(.sc kv,qk)) (hx:rd L x=(.sc xv,qx)) (hqm:X4h qm) (hqk:X4h qk) (hqx:X4h qx) (hik:IsKey d kv) (hks:∀ p∈es,IsKey d p.1)
  (h:X2 P nt n0 Q (.ops ops l) K ⟨fr L,hp G,n⟩ ((b,Xqe kv xv es)::μ)):X2 P nt n0 Q (.ops ops (o::l)) K ⟨fr L,hp G,n⟩ ((b,es)::μ):=by
 intro c0 H0 c act g hM Qx hQ R hR
 refine X35 fun K' hK'=>?_
 rw[if_pos (by simp[Region.wanted,hg])]
 have em:act.eval m=.map (some b):=by have:=g.ev m;rw[show evA (St.A ⟨fr L,hp G,n⟩) m=_ from X10 hm hqm] at this;exact this.sc_inv
 have ek:act.eval k=kv:=by have:=g.ev k;rw[show evA (St.A ⟨fr L,hp G,n⟩) k=_ from X10 hk hqk] at this;exact this.sc_inv
 have ex:act.eval x=xv:=by have:=g.ev x;rw[show evA (St.A ⟨fr L,hp G,n⟩) x=_ from X10 hx hqx] at this;exact this.sc_inv
 have hu1:P.underlying t=some (.map kt et):=by
  obtain⟨i,dd,_,hdd,_,hkk,_⟩:=X25 (hT t ti ht)
  rw[hkd] at hkk
  cases dd<;>simp[Xx] at hkk
  obtain⟨rfl,rfl⟩:=hkk
  exact hdd
 obtain⟨o',hrun,hmap⟩:=Xfe (v:=xv) hu1 hu (hM.is (b,es) (by simp)) hik hks
 have hex:(execOp act.eval o).run P c.w=.ok .skip { c.w with heap:=c.w.heap.setIfInBounds b o' }:=by
  obtain⟨dst,op,type,pos,after,guard⟩:=o
  simp only at ho
  subst ho
  simp only[execOp,em,ek,ex,Sem.run_bind,hrun]
  rfl
 refine Oper.wpR (fun d hd=>by rw[hd] at ho;cases ho) ?_
 unfold Oper.wp
 rw[hex]
 obtain⟨a1,a2,a3,a4⟩:=hM.away (b,es) (by simp)
 obtain⟨es0,cl,hb0,_⟩:=hM.is (b,es) (by simp)
 have hoth:∀ q,q≠b->({ c.w with heap:=c.w.heap.setIfInBounds b o' }:World).heap[q]?=c.w.heap[q]?:=(heap_set (o':=o') hb0).2
 obtain⟨h1,h2⟩:=g.inv.aside (w':={ c.w with heap:=c.w.heap.setIfInBounds b o' }) (by simp) hoth ⟨a1,a2⟩ a3
 have g2:X3d nt c0 H0 n0 { c with w:={ c.w with heap:=c.w.heap.setIfInBounds b o' } } ⟨fr L,hp G,n⟩ act:=by
  refine⟨h2,g.solo,fun q=>(g.frame q).mono h1 (.inr (g.ok q)),g.ok,g.size,?_,g.le0⟩
  have r:=g.reach
  refine⟨r.rho,r.os,r.tape,⟨r.output.1,Nat.le_trans r.output.2 (by first|exact Nat.le_refl _|exact Nat.le_succ _|(simp;done)|(simp;omega))⟩,by simpa using r.size,fun q hq hn=>?_,fun q hq=>?_,r.sa,r.so1,r.so2,r.B,r.own⟩
  ·exact(hoth q (fun e=>by subst e;exact absurd hq (Nat.not_lt.2 a4))).trans (r.block q hq hn)
  ·refine(hoth q (fun e=>?_)).trans (r.stable q hq)
   subst e
   rcases hq with hq|hq
   ·exact a1 (by rw[r.sa];exact hq)
   ·exact a2 (r.so1 _ hq)
 have hact:act.put o.dst undef=act:=by rw[hd];rfl
 have hMs:MOk n0 c0 { c with w:={ c.w with heap:=c.w.heap.setIfInBounds b o' } } (hp G) ((b,Xqe kv xv es)::μ) act:=by
  refine⟨fun p hp=>?_,fun p hp=>?_,?_,hM.ds⟩
  ·rcases List.mem_cons.1 hp with rfl|hp
   ·exact hmap
   ·have hne:p.1≠b:=fun e=>(List.nodup_cons.1 hM.nodup).1 (List.mem_map.2 ⟨p,hp,e⟩)
    exact(hM.is p (List.mem_cons_of_mem _ hp)).le (hoth _ hne) (h1.weaken fun q hq=>Nat.lt_of_lt_of_le hq g.le0)
  ·rcases List.mem_cons.1 hp with rfl|hp
   ·exact hM.away (b,es) (by simp)
   ·exact hM.away p (List.mem_cons_of_mem _ hp)
  ·exact hM.nodup
 have:=hK' act { c.w with heap:=c.w.heap.setIfInBounds b o' } (h c0 H0 _ act g2 hMs Qx hQ R hR)
 show K' (act.put o.dst undef) _
 rw[hact];exact this
theorem X2.mapLen {T:Ty} {t b kt et:Nat} {x:Operand} {qx:List Prop} {es:List (Value×Value)} {ti:TI} (hT:X9s P T) (ho:o.op=.call { callee:=.builtin .len,args:=#[x],argTypes:=#[t] }) (hg:o.guard=none) (hd:Xeq nt o.dst=true)
  (ht:T t=some ti) (hkd:ti.kind=.map kt et) (hx:rd L x=(.sc (.map (some b)),qx)) (hqx:X4h qx)
  (h:X2 P nt n0 Q (.ops ops l) K ⟨fr (Xyx o.dst (.sc (.int .i64 es.length)) L),hp G,n⟩ ((b,es)::μ)):X2 P nt n0 Q (.ops ops (o::l)) K ⟨fr L,hp G,n⟩ ((b,es)::μ):=by
 intro c0 H0 c act g hM Qx hQ R hR
 refine X35 fun K' hK'=>?_
 rw[if_pos (by simp[Region.wanted,hg])]
 have ex:act.eval x=.map (some b):=by have:=g.ev x;rw[show evA (St.A ⟨fr L,hp G,n⟩) x=_ from X10 hx hqx] at this;exact this.sc_inv
 have hu1:P.underlying t=some (.map kt et):=by
  obtain⟨i,dd,_,hdd,_,hkk,_⟩:=X25 (hT t ti ht)
  rw[hkd] at hkk
  cases dd<;>simp[Xx] at hkk
  obtain⟨rfl,rfl⟩:=hkk
  exact hdd
 obtain⟨es0,cl,hb0,hl,_⟩:=hM.is (b,es) (by simp)
 have hsz:es0.size=es.length:=by have hl':es0.toList.map (fun e=>(e.key,e.val))=es:=hl;rw[<-hl'];simp
 have hex:(execOp act.eval o).run P c.w=.ok (.value (.int .i64 es.length)) c.w:=by
  obtain⟨dst,op,type,pos,after,guard⟩:=o
  simp only at ho
  subst ho
  simp[execOp,resolve,invoke,builtin,Builtin.len_,ex,run_underlying hu1,MapKept.run_getObj_map hb0,goInt,hsz]
 refine Oper.wpR (fun d hd=>by rw[hd] at ho;cases ho) ?_
 unfold Oper.wp
 rw[hex]
 have g2:=g.next (c':=c) (dst:=o.dst) (a:=.sc (.int .i64 es.length)) (v:=.int .i64 es.length) (X6j hd) (.refl c) rfl (fun b hb=>.inl hb) (.refl c (hp G)) (fun q x hx=>.inr ⟨q,x,hx,rfl⟩) g.inv g.solo (Nat.le_refl _) .sc .sc
 rw[X6c] at h
 exact hK' _ _ (h c0 H0 c _ g2 hM.act Qx hQ R hR)
end
end Go.Av
namespace Go.D
def Xhs (ks:List Int) (z:Int):List Int:=if z∈ks then ks else ks++[z]
def X7m (ks:List Int):List Int->List Int
 |[]=>ks
 |z::zs=>X7m (Xhs ks z) zs
end Go.D
namespace Go.Av
def Xil (z:Int):Value×Value:=(.int .i64 z,.bool true)
end Go.Av


namespace Go.Av
theorem Oper.wp_mono2 {P:Program} {o:Oper} {a:Act} {w:World} {K K':Act->World->Prop} {Q Q':Exit->Act->World->Prop} (h:∀ a w,K a w->K' a w) (hq:∀ e a w,e≠.normal->Q e a w->Q' e a w)
  (hh:o.wp P a w K Q):o.wp P a w K' Q':=by
 unfold Oper.wp at *
 generalize (execOp a.eval o).run P w=r at *
 cases r with
 |ok n w' =>
  cases n with
  |enter f args =>
   simp only[Oper.upon] at hh ⊢
   refine Calls.mono hh (fun e w'' he=>?_)
   cases e with
   |returned v=>exact h _ _ he
   |panicked ch=>exact hq _ _ _ (by intro h;cases h) he
   |outgrown=>obtain⟨a0,w0,h0⟩:=he;exact⟨a0,w0,hq _ _ _ (by intro h;cases h) h0⟩
  |row row args=>simp only[Oper.upon] at hh ⊢;exact Rows.mono hh (fun _ _ he=>h _ _ he)
  |_=>simp only[Oper.upon] at hh ⊢<;>exact h _ _ hh
 |halt x w'=>cases x<;>simp only[Oper.upon] at hh ⊢<;>first|exact hh|exact hq _ _ _ (by intro h;cases h) hh
section
variable {P:Program} {ops:Array Oper} {Q:Exit->Act->World->Prop}
theorem Xiu:∀ (f:Nat) (listed:Array Bool) (a:Act) (w:World),wpAny P .any ops Q f listed a w->wpAny P .any ops Q (f+1) listed a w
 |0,listed,a,w,h=>⟨fun _=>h.2,fun i hi=>by rw[h.1] at hi;cases hi⟩
 |f+1,listed,a,w,h=>⟨h.1,fun i hi=>wpOp_mono (fun a' w' h'=>Xiu f _ a' w' h') (h.2 i hi)⟩
theorem Xmt (n:Nat):∀ (f:Nat) (listed:Array Bool) (a:Act) (w:World),wpAny P .any ops Q f listed a w->wpAny P .any ops Q (f+n) listed a w:=by
 induction n with
 |zero=>intro f l a w h;exact h
 |succ n ih=>intro f l a w h;exact Xiu (f+n) l a w (ih f l a w h)
def Xvl (j:Nat) (l:List Oper):Bool:=(List.range l.length).all fun i=>Nat.blt i j||(List.range i).all fun q=>((X1r l).getD i 0).testBit q
def Xkl (l:List Oper):Bool:=l.all fun o=>match o.guard with
 |some (j,_)=>Nat.blt j l.length
 |none=>true
theorem Xjg {j:Nat} {l:List Oper} (h:Xvl j l=true) {i q:Nat} (hi:i<l.length) (hj:j<=i) (hq:q<i):((X1r l).getD i 0).testBit q=true:=by
 have:=List.all_eq_true.1 h i (List.mem_range.2 hi)
 simp only[Bool.or_eq_true,Nat.blt_eq] at this
 rcases this with h1|h1
 ·omega
 ·exact List.all_eq_true.1 h1 q (List.mem_range.2 hq)
theorem Xdc {listed:Array Bool} {i:Nat} {o:Oper} (hi:i∈Region.ready .any ops listed) (ho:ops.toList[i]?=some o):∀ j∈Xal o,listed.getD j false=true:=by
 rw[X45] at hi
 obtain⟨_,_,h3⟩:=hi
 have ho':ops[i]?=some o:=by simpa using ho
 rw[ho'] at h3
 simp only[Option.map_some,Option.getD_some] at h3
 intro j hj
 obtain⟨e,he,rfl⟩:=List.mem_map.1 hj
 obtain⟨he1,he2⟩:=List.mem_filter.1 he
 rw[Array.all_eq_true_iff_forall_mem] at h3
 have:=h3 e (by simpa using he1)
 rw[he2] at this
 simpa using this
theorem Xdf {listed:Array Bool} {i:Nat} {o:Oper} (hsz:listed.size=ops.size) (ho:ops.toList[i]?=some o) (hl:listed.getD i false=false) (h:∀ j∈Xal o,listed.getD j false=true):i∈Region.ready .any ops listed:=by
 have hi:i<ops.size:=by have:=(List.getElem?_eq_some_iff.1 ho).1;simpa using this
 rw[X45]
 refine⟨hi,?_,?_⟩
 ·have hil:i<listed.size:=by omega
  simp only[Array.getD_eq_getD_getElem?,Array.getElem?_eq_getElem hil,Option.getD_some] at hl ⊢
  exact hl
 ·have ho':ops[i]?=some o:=by simpa using ho
  rw[ho']
  simp only[Option.map_some,Option.getD_some]
  rw[Array.all_eq_true_iff_forall_mem]
  intro e he
  cases hb:Region.binds .any e with
  |false=>rfl
  |true=>simpa using h e.on (List.mem_map.2 ⟨e,List.mem_filter.2 ⟨by simpa using he,hb⟩,rfl⟩)
def Xky (ops:Array Oper) (listed:Array Bool):Prop:=∀ (i:Nat) o,ops.toList[i]?=some o->listed.getD i false=true->∀ j∈Xal o,listed.getD j false=true
theorem Xlh (hpre:X91 0 ops.toList=true) {listed:Array Bool} (hc:Xky ops listed) {i:Nat} (hi:i∈Region.ready .any ops listed) {q:Nat} (hq:((X1r ops.toList).getD i 0).testBit q=true):listed.getD q false=true:=by
 have hlt:=(X45.1 hi).1
 have ho:ops.toList[i]?=some ops[i]:=by simp[hlt]
 have hp:∀ (i:Nat) o,ops.toList[i]?=some o->∀ j∈Xal o,j<i:=fun i o ho j hj=>by have:=X5z _ 0 hpre i o ho j hj;omega
 exact(Xfa (S:=fun k=>listed.getD k false) hp hc i _ ho (Xdc hi ho) q hq).1
theorem X80 {listed:Array Bool} {i k:Nat} (hi:i<listed.size):(listed.setIfInBounds i true).getD k false=(listed.getD k false||Nat.beq k i):=by
 simp only[Array.getD_eq_getD_getElem?]
 by_cases h:k=i
 ·subst h;simp[hi]
 ·have:Nat.beq k i=false:=by rw[<-Bool.not_eq_true,Nat.beq_eq];exact h
  rw[Array.getElem?_setIfInBounds_ne (fun e=>h e.symm),this,Bool.or_false]
theorem Xss (hpre:X91 0 ops.toList=true) {j:Nat} (hbar:Xvl j ops.toList=true):∀ (f m:Nat) (listed:Array Bool) (a:Act) (w:World),listed.size=ops.size->j<=m->m+f=ops.size->(∀ k,k<ops.size->(listed.getD k false=true↔k<m)) ->
  wpList P ops Q (ops.toList.drop m) a w->wpAny P .any ops Q f listed a w:=by
 have hlen:ops.toList.length=ops.size:=Array.length_toList
 intro f
 induction f with
 |zero =>
  intro m listed a w hsz hj hm hl h
  refine⟨?_,?_⟩
  ·rw[List.eq_nil_iff_forall_not_mem]
   intro i hi
   obtain⟨h1,h2,_⟩:=X45.1 hi
   have:=(hl i h1).2 (by omega)
   have hil:i<listed.size:=by omega
   simp only[Array.getD_eq_getD_getElem?,Array.getElem?_eq_getElem hil,Option.getD_some] at h2 this
   rw[h2] at this;cases this
  ·rw[List.drop_of_length_le (by omega)] at h;exact h
 |succ f ih =>
  intro m listed a w hsz hj hm hl h
  have hmo:ops.toList[m]?=some (ops.toList[m]'(by omega)):=List.getElem?_eq_getElem (by omega)
  have hc:Xky ops listed:=fun i o ho hi q hq=>by
   have hio:i<ops.size:=by have:=(List.getElem?_eq_some_iff.1 ho).1;omega
   have h1:=X5z _ 0 hpre i o ho q hq
   have h2:=(hl i hio).1 hi
   exact(hl q (by omega)).2 (by omega)
  have hrm:m∈Region.ready .any ops listed:=by
   refine Xdf hsz hmo ?_ fun q hq=>?_
   ·rw[<-Bool.not_eq_true];exact fun e=>by have:=(hl m (by omega)).1 e;omega
   ·have h1:=X5z _ 0 hpre m _ hmo q hq
    exact(hl q (by omega)).2 (by omega)
  refine⟨fun hr=>(by rw[hr] at hrm;cases hrm),fun i hi=>?_⟩
  have him:i=m:=by
   obtain⟨h1,h2,_⟩:=X45.1 hi
   have hil:i<listed.size:=by omega
   have hge:m<=i:=by
    rcases Nat.lt_or_ge i m with h3|h3
    ·have:=(hl i h1).2 h3
     simp only[Array.getD_eq_getD_getElem?,Array.getElem?_eq_getElem hil,Option.getD_some] at h2 this
     rw[h2] at this;cases this
    ·exact h3
   rcases Nat.lt_or_eq_of_le hge with h3|h3
   ·have:=Xlh hpre hc hi (Xjg hbar (by omega) (by omega) h3)
    have:=(hl m (by omega)).1 this
    omega
   ·exact h3.symm
  subst him
  rw[List.drop_eq_getElem_cons (by omega)] at h
  unfold wpList at h
  unfold wpOp
  have ho':ops[i]?=some (ops.toList[i]'(by omega)):=by simpa using hmo
  rw[ho']
  simp only
  have hnext:∀ a' w',wpList P ops Q (ops.toList.drop (i+1)) a' w'->wpAny P .any ops Q f (listed.setIfInBounds i true) a' w':=fun a' w' h' =>
   ih (i+1) _ a' w' (by simpa using hsz) (by omega) (by omega) (fun k hk=>by
    rw[X80 (by omega),Bool.or_eq_true,hl k hk,Nat.beq_eq];omega) h'
  by_cases hw:Region.wanted (ops.toList[i]'(by omega)) (yielded ops a.tmps)=true
  ·rw[if_pos hw] at h ⊢
   exact h.imp (Oper.wp_mono hnext) id
  ·rw[if_neg hw] at h ⊢
   exact hnext _ _ h
theorem Xqh {j i:Nat} {o:Oper} (h:(ops.toList.take j)[i]?=some o):ops.toList[i]?=some o/\i<j:=by
 rw[List.getElem?_take] at h
 split at h
 ·exact⟨h,by assumption⟩
 ·cases h
theorem Xst {R:Exit->Act->World->Prop} {j:Nat} {pre:Array Oper} (hp:pre.toList=ops.toList.take j) (hjl:j<=ops.size) (hpre:X91 0 ops.toList=true) (hbar:Xvl j ops.toList=true) (hgd:Xkl (ops.toList.take j)=true)
  (hRQ:∀ e a w,e≠.normal->R e a w->Q e a w) (r:Nat)
  (hend:∀ listed a w,listed.size=ops.size->(∀ k,k<ops.size->(listed.getD k false=true↔k<j))->R .normal a w->wpAny P .any ops Q r listed a w) :
  ∀ (f:Nat) (lp lo:Array Bool) (a:Act) (w:World),lp.size=pre.size->lo.size=ops.size->(∀ k,lo.getD k false=(lp.getD k false&&Nat.blt k j))->Xky pre lp ->
   wpAny P .any pre R f lp a w->wpAny P .any ops Q (f+r) lo a w:=by
 have hlen:ops.toList.length=ops.size:=Array.length_toList
 have hps:pre.size=j:=by rw[<-Array.length_toList,hp,List.length_take];omega
 have hpp:X91 0 pre.toList=true:=by
  have key:∀ (l:List Oper) (i k:Nat),X91 i l=true->X91 i (l.take k)=true:=by
   intro l
   induction l with
   |nil=>intro i k _;simp[X91]
   |cons a l ih =>
    intro i k h
    cases k with
    |zero=>rfl
    |succ k =>
     simp only[X91,Bool.and_eq_true,List.take_succ_cons] at h ⊢
     exact⟨h.1,ih _ _ h.2⟩
  rw[hp];exact key _ _ _ hpre
 have same:∀ (k:Nat) o,ops.toList[k]?=some o->k<j->pre.toList[k]?=some o:=fun k o ho hk=>by rw[hp,List.getElem?_take,if_pos hk];exact ho
 have full:∀ (lp:Array Bool),lp.size=pre.size->Region.ready .any pre lp=[]->∀ k,k<j->lp.getD k false=true:=by
  intro lp hs hr k
  induction k using Nat.strongRecOn with
  |_ k ih =>
   intro hk
   cases hl:lp.getD k false with
   |true=>rfl
   |false =>
    have hko:pre.toList[k]?=some (pre.toList[k]'(by rw[Array.length_toList];omega)):=List.getElem?_eq_getElem _
    have:=Xdf hs hko hl fun q hq=>by
     have h1:=X5z _ 0 hpp k _ hko q hq
     exact ih q (by omega) (by omega)
    rw[hr] at this;cases this
 have yl:∀ (tmps:Array Value) (q:Nat),q<j->yielded ops tmps q=yielded pre tmps q:=by
  intro tmps q hq
  have:ops[q]?=pre[q]?:=by
   have h1:ops.toList[q]?=pre.toList[q]?:=by rw[hp,List.getElem?_take,if_pos hq]
   simpa using h1
  unfold yielded
  rw[this]
 intro f
 induction f with
 |zero =>
  intro lp lo a w hs1 hs2 hrel hcl h
  obtain⟨h1,h2⟩:=h
  rw[Nat.zero_add]
  refine hend lo a w hs2 (fun k hk=>?_) h2
  rw[hrel]
  constructor
  ·intro h3;simp only[Bool.and_eq_true,Nat.blt_eq] at h3;exact h3.2
  ·intro h3;simp only[Bool.and_eq_true,Nat.blt_eq];exact⟨full lp hs1 h1 k h3,h3⟩
 |succ f ih =>
  intro lp lo a w hs1 hs2 hrel hcl h
  obtain⟨h1,h2⟩:=h
  by_cases hr:Region.ready .any pre lp=[]
  ·have:wpAny P .any ops Q r lo a w:=hend lo a w hs2 (fun k hk=>by
    rw[hrel]
    constructor
    ·intro h3;simp only[Bool.and_eq_true,Nat.blt_eq] at h3;exact h3.2
    ·intro h3;simp only[Bool.and_eq_true,Nat.blt_eq];exact⟨full lp hs1 hr k h3,h3⟩) (h1 hr)
   have:=Xmt (f+1) r lo a w this
   rwa [Nat.add_comm] at this
  ·have hclo:Xky ops lo:=by
    intro i o ho hi q hq
    rw[hrel] at hi ⊢
    simp only[Bool.and_eq_true,Nat.blt_eq] at hi ⊢
    have hq2:=X5z _ 0 hpre i o ho q hq
    exact⟨hcl i o (same i o ho hi.2) hi.1 q hq,by omega⟩
   obtain⟨p,hpr⟩:=List.exists_mem_of_ne_nil _ hr
   have hpj:p<j:=by have:=(X45.1 hpr).1;omega
   have hnl:lo.getD p false=false:=by
    rw[hrel]
    have h3:=(X45.1 hpr).2.1
    have hpl:p<lp.size:=by omega
    simp only[Array.getD_eq_getD_getElem?,Array.getElem?_eq_getElem hpl,Option.getD_some] at h3 ⊢
    rw[h3];rfl
   have low:∀ i,i∈Region.ready .any ops lo->i<j:=by
    intro i hi
    rcases Nat.lt_or_ge i j with h3|h3
    ·exact h3
    ·have:=Xlh hpre hclo hi (Xjg hbar (by have:=(X45.1 hi).1;omega) h3 (show p<i by omega))
     rw[hnl] at this;cases this
   rw[show f+1+r=(f+r)+1 by omega]
   refine⟨fun hro=>?_,fun i hi=>?_⟩
   ·exfalso
    have hpo:pre.toList[p]?=some (pre.toList[p]'(by rw[Array.length_toList];omega)):=List.getElem?_eq_getElem _
    have hpo2:ops.toList[p]?=some (pre.toList[p]'(by rw[Array.length_toList];omega)):=(Xqh (by rw[<-hp];exact hpo)).1
    have:p∈Region.ready .any ops lo:=Xdf hs2 hpo2 hnl fun q hq=>by
     have h3:=Xdc hpr hpo q hq
     have h4:=X5z _ 0 hpre p _ hpo2 q hq
     rw[hrel,h3];simp;omega
    rw[hro] at this;cases this
   ·have hij:=low i hi
    have hio:ops.toList[i]?=some (ops.toList[i]'(by omega)):=List.getElem?_eq_getElem _
    have hip:=same i _ hio hij
    have hli:lp.getD i false=false:=by
     have h3:=(X45.1 hi).2.1
     have hil:i<lo.size:=by omega
     have h5:lo.getD i false=false:=by
      simp only[Array.getD_eq_getD_getElem?,Array.getElem?_eq_getElem hil,Option.getD_some] at h3 ⊢
      exact h3
     rw[hrel] at h5
     have:Nat.blt i j=true:=by simpa using hij
     rw[this,Bool.and_true] at h5
     exact h5
    have hir:i∈Region.ready .any pre lp:=Xdf hs1 hip hli fun q hq=>by
     have h3:=Xdc hi hio q hq
     rw[hrel] at h3
     simp only[Bool.and_eq_true] at h3
     exact h3.1
    have hk:=h2 i hir
    unfold wpOp at hk ⊢
    have e1:ops[i]?=some (ops.toList[i]'(by omega)):=by simpa using hio
    have e2:pre[i]?=some (ops.toList[i]'(by omega)):=by simpa using hip
    rw[e2] at hk
    rw[e1]
    simp only at hk ⊢
    have hw:Region.wanted (ops.toList[i]'(by omega)) (yielded ops a.tmps)=Region.wanted (ops.toList[i]'(by omega)) (yielded pre a.tmps):=by
     unfold Region.wanted
     cases hgu:(ops.toList[i]'(by omega)).guard with
     |none=>rfl
     |some g =>
      obtain⟨gj,want⟩:=g
      have h5:=List.all_eq_true.1 hgd (ops.toList[i]'(by omega)) (List.mem_of_getElem? (i:=i) (by rw[List.getElem?_take,if_pos hij];exact hio))
      rw[hgu] at h5
      simp only[Nat.blt_eq,List.length_take] at h5
      simp only[yl a.tmps gj (by omega)]
    rw[hw]
    have hnext:∀ a' w',wpAny P .any pre R f (lp.setIfInBounds i true) a' w'->wpAny P .any ops Q (f+r) (lo.setIfInBounds i true) a' w':=by
     intro a' w' h'
     refine ih _ _ a' w' (by simpa using hs1) (by simpa using hs2) (fun k=>?_) ?_ h'
     ·rw[X80 (by omega),X80 (by omega),hrel]
      by_cases hki:k=i
      ·subst hki
       have:Nat.blt k j=true:=by simpa using hij
       simp[this]
      ·have:Nat.beq k i=false:=by rw[<-Bool.not_eq_true,Nat.beq_eq];exact hki
       simp[this]
     ·intro k o ho hk q hq
      rw[X80 (by omega)] at hk ⊢
      rcases Bool.or_eq_true_iff.1 hk with hk|hk
      ·rw[hcl k o ho hk q hq];rfl
      ·have:k=i:=by simpa using hk
       subst this
       rw[Xdc hir ho q hq];rfl
    by_cases hwt:Region.wanted (ops.toList[i]'(by omega)) (yielded pre a.tmps)=true
    ·rw[if_pos hwt] at hk ⊢
     rcases hk with hk|⟨hk,a0,w0,hl⟩
     ·exact .inl (Oper.wp_mono2 hnext hRQ hk)
     ·exact .inr ⟨hk,a0,w0,hRQ _ _ _ (by intro h;cases h) hl⟩
    ·rw[if_neg hwt] at hk ⊢
     exact hnext _ _ hk
end
theorem X4l.drawnCut {P:Program} {T:Ty} {nt n0 id j n:Nat} {ops:Array Oper} {L L':List (Nat×AV)} {G G':List (Nat×Obj)} {Q:Xy->St->Mu->Prop} {μ:Mu} (hT:X9s P T/\P.follows .mixedOrders=true) (hpre:X91 0 ops.toList=true)
  (hjl:Nat.ble j ops.size=true) (hbar:Xvl j ops.toList=true) (hgd:Xkl (ops.toList.take j)=true) (hs:List X59) {hs':List X59} {ps':List Prop}
  (h:Xip hz0 P T nt n ⟨ops.toList.take j⟩ (X1r (ops.toList.take j)) ((X1r (ops.toList.take j)).zip ((ops.toList.take j).map hz0)) 0 (ops.toList.take j) L G [] hs []=some (L',G',hs',ps')) (hp':X4h ps')
  (k:X5f P nt n0 ops (ops.toList.drop j) (fun s μ=>Q .normal s μ) ⟨fr L',hp G',n+j⟩ μ) (hμ:Xh2 μ=true:=by rfl):X4l P nt n0 (.region id ops true) Q ⟨fr L,hp G,n⟩ μ:=by
 have hjl':j<=ops.size:=by simpa using hjl
 obtain⟨_,hrun⟩:=Xq0 _ _ _ _ _ _ _ _ _ _ _ h hp'
 obtain⟨rs,hall,hA,hH⟩:=hrun.all (fr L) (hp G) [] (Nat.zero_le _) rfl rfl rfl rfl rfl (fun k o r _ hr=>by simp at hr)
 have hpl:X91 0 (ops.toList.take j)=true:=by
  have key:∀ (l:List Oper) (i k:Nat),X91 i l=true->X91 i (l.take k)=true:=by
   intro l
   induction l with
   |nil=>intro i k _;simp[X91]
   |cons a l ih =>
    intro i k h
    cases k with
    |zero=>rfl
    |succ k =>
     simp only[X91,Bool.and_eq_true,List.take_succ_cons] at h ⊢
     exact⟨h.1,ih _ _ h.2⟩
  exact key _ _ _ hpre
 have hlenp:(ops.toList.take j).length=j:=by rw[List.length_take,Array.length_toList];omega
 intro c0 HH c act g0 hm R0 hR0
 have g:=g0.rebase.drew
 obtain rfl:=hR0 rfl
 refine X95.2 (wp_region_any hT.2 ?_)
 have hz:∀ m k,(Array.replicate m false).getD k false=false:=by
  intro m k
  simp only[Array.getD_eq_getD_getElem?,Array.getElem?_replicate]
  split<;>rfl
 have hfn:∀ m,(fun k=>(Array.replicate m false).getD k false)=(fun _=>false):=fun m=>funext (hz m)
 have hM:∀ q,q<n->AtS n (fun _=>false) q:=fun q h=>.inl h
 have hdg:=Xpz (n0:=n0) (Q:=fun e s=>e=.normal/\s=⟨fr L',hp G',n+j⟩) hT.1 (ops:=⟨ops.toList.take j⟩) hpl hall ⟨rfl,by rw[hA,hH];congr 1;simp only[hlenp]⟩ (c0:=c) (HH:=hp G) g.le0 j (Array.replicate j false) (List.range j)
  { c with w:={ c.w with drawn:=c.w.drawn+1 } } act (by simp[hlenp]) (by simp) (fun k hk _=>List.mem_range.2 (by simpa[hlenp] using hk)) (fun i o _ h=>by rw[hz] at h;cases h) (by
   rw[hfn,Xa8,Xa8]
   exact⟨g.inv.more hM,g.solo,g.frame,fun t=>(g.ok t).mono hM,g.size,g.reach,fun q hq=>hM q (Nat.lt_of_lt_of_le hq g.le0)⟩) rfl
 have:=Xst (Q:=MQ nt c0 HH n0 Q) (pre:=⟨ops.toList.take j⟩) (R:=CQ nt c (hp G) n0 act.defers (fun e s=>e=.normal/\s=⟨fr L',hp G',n+j⟩)) (j:=j) rfl hjl' hpre hbar hgd
  (by rintro e a w hne ⟨c',s',ae,_,_,_,rfl,rfl,_⟩;exact absurd rfl hne) (ops.size - j) (by
   rintro listed a w hsz hl ⟨c',s',ae,rfl,g',hd',_,rfl,rfl⟩
   refine Xss hpre hbar (ops.size - j) j listed a c'.w hsz (Nat.le_refl _) (by omega) hl ?_
   exact k c0 HH c' a (.join g0.reach g') (hm.kept g'.reach hd') _ (fun c2 s2 a2 μ2 g2 hm2 hq=>⟨c2,s2,.normal,μ2,rfl,g2,hm2,rfl,hq⟩) none (fun _=>hμ))
  j (Array.replicate j false) (Array.replicate ops.size false) act { c.w with drawn:=c.w.drawn+1 } (by simp[hlenp]) (by simp) (fun k=>by rw[hz,hz];rfl) (fun i o _ h=>by rw[hz] at h;cases h) hdg
 rwa [show j+(ops.size - j)=ops.size by omega] at this
theorem X2.drawnCut {P:Program} {T:Ty} {nt n0 id n:Nat} {ops:Array Oper} {L L':List (Nat×AV)} {G G':List (Nat×Obj)} {K:List Kn} {Q:Xy->St->Mu->Prop} {μ:Mu} (j:Nat) (hT:X9s P T/\P.follows .mixedOrders=true) (hs:List X59) {hs':List X59} {ps':List Prop} (hpre:X91 0 ops.toList=true)
  (hjl:Nat.ble j ops.size=true) (hbar:Xvl j ops.toList=true) (hgd:Xkl (ops.toList.take j)=true)
  (h:Xip hz0 P T nt n ⟨ops.toList.take j⟩ (X1r (ops.toList.take j)) ((X1r (ops.toList.take j)).zip ((ops.toList.take j).map hz0)) 0 (ops.toList.take j) L G [] hs []=some (L',G',hs',ps')) (hp':X4h ps')
  (k:X2 P nt n0 Q (.ops ops (ops.toList.drop j)) K ⟨fr L',hp G',n+j⟩ μ) (hμ:Xh2 μ=true:=by rfl):X2 P nt n0 Q (.code (.region id ops true)) K ⟨fr L,hp G,n⟩ μ :=
 X4l.drawnCut hT hpre hjl hbar hgd hs h hp' k hμ
end Go.Av
namespace Go.Av
theorem X2.nilsList {P:Program} {nt n0 n:Nat} {Q:Xy->St->Mu->Prop} {cf:Cf} {K:List Kn} {μ:Mu} {L:List (Nat×AV)} {H:X0b} (t:Nat) (own:Bool) (h0:fr L t=.nils)
  (h:X2 P nt n0 Q cf K ⟨fr ((t,.list own [])::L),H,n⟩ μ):X2 P nt n0 Q cf K ⟨fr L,H,n⟩ μ:=by
 refine X2.sub (s':=⟨fr ((t,.list own [])::L),H,n⟩) (fun c0 H0 c act μ g hm=>⟨?_,hm⟩) h
 have hfr:∀ q,fr ((t,.list own [])::L) q=if q=t then .list own [] else fr L q:=by
  intro q
  simp only[fr]
  by_cases hq:q=t
  ·subst hq;simp
  ·have:Nat.beq q t=false:=by rw[<-Bool.not_eq_true,Nat.beq_eq];exact hq
   rw[this,if_neg hq];rfl
 refine⟨g.inv,g.solo,fun q=>?_,fun q=>?_,g.size,g.reach,g.le0⟩
 ·show X0w c false (fr ((t,.list own [])::L) q) _
  rw[hfr]
  by_cases hq:q=t
  ·subst hq
   rw[if_pos rfl]
   have:=g.frame q
   rw[show St.A ⟨fr L,H,n⟩ q=.nils from h0] at this
   obtain⟨p,hp⟩:=this.nils_inv
   rw[hp];exact .listNil
  ·rw[if_neg hq];exact g.frame q
 ·show(fr ((t,.list own [])::L) q).Ok _
  rw[hfr]
  by_cases hq:q=t
  ·rw[if_pos hq];exact .list
  ·rw[if_neg hq];exact g.ok q
end Go.Av


namespace Go.Av
def denC:AV->AV
 |.nils=>.list true []
 |a=>a
theorem Xyf {c:Ctx} {d:Bool} {a:AV} {v:Value} (h:X0w c d a v):X0w c d (denC a) v:=by
 cases a with
 |nils=>obtain⟨p,rfl⟩:=h.nils_inv;exact .listNil
 |_=>exact h
theorem X01r {M:Nat->Prop} {a:AV} (h:a.Ok M):(denC a).Ok M:=by
 cases a with
 |nils=>exact .list
 |_=>exact h
end Go.Av


namespace Go.Av
structure Xwo (c:Ctx) (H:X0b) (b:Nat):Prop where
 sa:¬ c.Sa b
 so:¬ c.So b
 ob:∀ o x,H o=some x->(c.ρ o).blk≠b
theorem Xwo.kept {c c':Ctx} {H H':X0b} {n b:Nat} (h:Xwo c H b) (hb:b<c.w.heap.size) (r:Reach c H n c' H'):Xwo c' H' b:=by
 refine⟨by rw[r.sa];exact h.sa,fun hs=>?_,fun o x hx he=>?_⟩
 ·rcases r.so2 _ hs with h1|h1|⟨o,x,h1,h2⟩
  ·exact h.so h1
  ·omega
  ·exact h.ob o x h1 h2
 ·rcases r.own o x hx with h1|⟨o',x',h1,h2⟩
  ·omega
  ·exact h.ob o' x' h1 (h2.trans he)
theorem Reach.weaken {c c':Ctx} {H H':X0b} {n n':Nat} (r:Reach c H n c' H') (h:n'<=n):Reach c H n' c' H' :=
 ⟨fun o ho=>r.rho o (Nat.lt_of_lt_of_le ho h),r.os,r.tape,r.output,r.size,r.block,r.stable,r.sa,r.so1,r.so2,r.B,r.own⟩
theorem X3d.turn0 {nt n0:Nat} {c0 c:Ctx} {H0:X0b} {s:St} {act:Act} {b:Nat} (o:Go.Obj) (g:X3d nt c0 H0 n0 c s act) (h:Xwo c s.H b) :
  X3d nt { c with w:=c.w.putObj b o } s.H n0 { c with w:=c.w.putObj b o } s act/\c.Le (fun _=>True) { c with w:=c.w.putObj b o }:=by
 have hother:∀ k,k≠b->(c.w.putObj b o).heap[k]?=c.w.heap[k]?:=fun k hk=>World.putObj_heap_other hk
 have hle:c.Le (fun _=>True) { c with w:=c.w.putObj b o } :=
  ⟨fun _ _=>rfl,fun _ h=>h,fun _ h=>h,fun k hk=>hother k (fun e=>by subst e;exact hk.elim h.sa h.so),rfl⟩
 have all:∀ {a:AV} {M:Nat->Prop},a.Ok M->a.Ok (fun _=>True):=fun h=>h.mono fun _ _=>trivial
 refine⟨⟨⟨fun q x hx=>?_,g.inv.sep,g.inv.stab,fun k hk=>?_,?_,g.inv.own,g.inv.low⟩,g.solo,fun t=>(g.frame t).mono hle (.inr (all (g.ok t))),g.ok,g.size,.refl _ _ _,g.le0⟩,hle⟩
 ·obtain⟨i1,⟨⟨cur,hb,hs,hc⟩,i3,i4,i5⟩,i6⟩:=g.inv.obj q x hx
  refine⟨i1,⟨⟨cur,(hother _ (h.ob q x hx)).trans hb,hs,fun i e he=>?_⟩,i3,i4,i5⟩,i6⟩
  obtain⟨g1,g2⟩:=hc i e he
  exact⟨g1,fun k a ha=>by obtain⟨v,hv,hr,h7⟩:=g2 k a ha;exact⟨v,hv,hr.mono hle (.inr (all (i6 e (List.mem_of_getElem? he) a (List.mem_of_getElem? ha)))),h7⟩⟩
 ·show k<(c.w.putObj b o).heap.size
  rw[World.putObj_size];exact g.inv.lt k hk
 ·show c.B<=(c.w.putObj b o).heap.size
  rw[World.putObj_size];exact g.inv.base
theorem Reach.turnBack {c c1 c2:Ctx} {H H1 H2:X0b} {n b:Nat} {o0 o1:Go.Obj} (r1:Reach c H n c1 H1) (r2:Reach { c1 with w:=c1.w.putObj b o1 } H1 n c2 H2) (hb:c.w.heap[b]?=some o0) (h:Xwo c H b) :
  Reach c H n { c2 with w:=c2.w.putObj b o0 } H2:=by
 have hlt:b<c.w.heap.size:=(Array.getElem?_eq_some_iff.1 hb).1
 have hs2:c.w.heap.size<=c2.w.heap.size:=by
  have h1:=r1.size
  have h2:(c1.w.putObj b o1).heap.size<=c2.w.heap.size:=r2.size
  rw[World.putObj_size] at h2;omega
 refine⟨fun o ho=>(r2.rho o ho).trans (r1.rho o ho),r2.os.trans r1.os,r2.tape.trans r1.tape,⟨r2.output.1.trans r1.output.1,Nat.le_trans r1.output.2 r2.output.2⟩,?_,fun k hk hn=>?_,fun k hk=>?_,r2.sa.trans r1.sa,fun k hk=>r2.so1 k (r1.so1 k hk),fun k hk=>?_,r2.B.trans r1.B,fun o x hx=>?_⟩
 ·show c.w.heap.size<=(c2.w.putObj b o0).heap.size
  rw[World.putObj_size];exact hs2
 ·show(c2.w.putObj b o0).heap[k]?=_
  by_cases e:k=b
  ·subst e;rw[World.putObj_heap_same (by omega)];exact hb.symm
  ·rw[World.putObj_heap_other e]
   have h2:c2.w.heap[k]?=(c1.w.putObj b o1).heap[k]?:=r2.block k (by show k<(c1.w.putObj b o1).heap.size;rw[World.putObj_size];exact Nat.lt_of_lt_of_le hk r1.size) fun o x hx he=>by
    rcases r1.own o x hx with h1|⟨o',x',h1,h2⟩
    ·have he':(c1.ρ o).blk=k:=he
     omega
    ·exact hn o' x' h1 (h2.trans he)
   rw[h2,World.putObj_heap_other e]
   exact r1.block k hk hn
 ·show(c2.w.putObj b o0).heap[k]?=_
  have e:k≠b:=fun e=>by subst e;exact hk.elim h.sa h.so
  rw[World.putObj_heap_other e]
  have h2:c2.w.heap[k]?=(c1.w.putObj b o1).heap[k]?:=r2.stable k (hk.imp (fun x=>by show c1.Sa k;rw[r1.sa];exact x) (r1.so1 k))
  rw[h2,World.putObj_heap_other e]
  exact r1.stable k hk
 ·rcases r2.so2 k hk with h1|h1|⟨q,y,h1,h2⟩
  ·exact r1.so2 k h1
  ·right;left
   have h3:(c1.w.putObj b o1).heap.size<=k:=h1
   rw[World.putObj_size] at h3
   exact Nat.le_trans r1.size h3
  ·have h2':(c1.ρ q).blk=k:=h2
   rcases r1.own q y h1 with h3|⟨q',y',h3,h4⟩
   ·exact .inr (.inl (by omega))
   ·exact .inr (.inr ⟨q',y',h3,h4.trans h2'⟩)
 ·rcases r2.own o x hx with h1|⟨q,y,h1,h2⟩
  ·left
   have h3:(c1.w.putObj b o1).heap.size<=(c2.ρ o).blk:=h1
   rw[World.putObj_size] at h3
   exact Nat.le_trans r1.size h3
  ·rcases r1.own q y h1 with h3|⟨q',y',h3,h4⟩
   ·left
    have:(c1.ρ q).blk=(c2.ρ o).blk:=h2
    show c.w.heap.size<=(c2.ρ o).blk
    omega
   ·exact .inr ⟨q',y',h3,h4.trans h2⟩
def zipL:List Nat->List AV->List (Nat×AV)->List (Nat×AV)
 |p::ps,a::as,L=>zipL ps as ((p,a)::L)
 |_,_,L=>L
theorem Xwp {c:Ctx} {n:Nat}:∀ (ps:List Nat) (as:List AV) (vs:List Value) (L:List (Nat×AV)) (tmps:Array Value),as.length=vs.length->(∀ (i:Nat) a v,as[i]?=some a->vs[i]?=some v->X0w c false a v/\a.Ok (·<n)) ->
  (∀ p∈ps,p<tmps.size)->(∀ t,X0w c false (fr L t) (tmps.getD t undef)/\(fr L t).Ok (·<n)) ->
  (∀ t,X0w c false (fr (zipL ps as L) t) (((ps.zip vs).foldl (fun t (p,v)=>t.setIfInBounds p v) tmps).getD t undef)/\(fr (zipL ps as L) t).Ok (·<n))/\((ps.zip vs).foldl (fun t (p,v)=>t.setIfInBounds p v) tmps).size=tmps.size:=by
 intro ps
 induction ps with
 |nil=>intro as vs L tmps _ _ _ h;cases as<;>exact⟨h,rfl⟩
 |cons p ps ih =>
  intro as vs L tmps hl ha hp h
  cases as with
  |nil =>
   have:vs=[]:=List.eq_nil_of_length_eq_zero (by rw[<-hl];rfl)
   subst this
   exact⟨h,rfl⟩
  |cons a as =>
   cases vs with
   |nil=>simp at hl
   |cons v vs =>
    have h0:=ha 0 a v rfl rfl
    obtain⟨k1,k2⟩:=ih as vs ((p,a)::L) (tmps.setIfInBounds p v) (by simpa using hl) (fun i a v h1 h2=>ha (i+1) a v (by simpa using h1) (by simpa using h2)) (fun q hq=>by simpa using hp q (List.mem_cons_of_mem _ hq)) (fun t=>by
     rw[Xko (hp p List.mem_cons_self)]
     by_cases ht:t=p
     ·subst ht;rw[if_pos rfl]
      have:fr ((t,a)::L) t=a:=by simp[fr]
      rw[this];exact h0
     ·rw[if_neg ht]
      have:fr ((p,a)::L) t=fr L t:=by
       have hb:Nat.beq t p=false:=by rw[<-Bool.not_eq_true,Nat.beq_eq];exact ht
       simp[fr,hb]
      rw[this];exact h t)
    exact⟨k1,by simpa using k2⟩
def asgQ (P:Program) (nt n:Nat) (body:Code) (RQ:Xy->St->Mu->Prop):Xy->St->Mu->Prop:=fun e s μ=>e=.normal/\μ=[]/\X4l P nt n body RQ s []
theorem X2.asg {P:Program} {nt n:Nat} {body:Code} {RQ:Xy->St->Mu->Prop} {s:St} (h:X2 P nt n RQ (.code body) [] s []):X2 P nt n (asgQ P nt n body RQ) (.exit .normal) [] s [] :=
 Cl.mk ⟨rfl,rfl,X4l.ofCl h⟩
theorem Xql {μ:Mu} {b:Nat} {r:Loop} {nt m:Nat} {A:Nat->AV} (h:(b,.loop r nt m A)∈μ):Xh2 μ=false:=by
 induction μ with
 |nil=>cases h
 |cons p μ ih =>
  obtain⟨q,x⟩:=p
  rcases List.mem_cons.1 h with h|h2
  ·cases h;rfl
  ·cases x with
   |loop=>rfl
   |mark=>exact ih h2
   |map=>exact ih h2
   |blk=>exact ih h2
def rndQ (P:Program) (nt n0:Nat) (Q:Xy->St->Mu->Prop) (ops:Array Oper) (l:List Oper) (K:List Kn) (L:List (Nat×AV)) (d:Option Nat) (μ:Mu):Xy->St->Mu->Prop :=
 fun e s _=>e=.normal/\X2 P nt n0 Q (.ops ops l) K ⟨X9j (fr L) d (.sc (.bool true)),s.H,s.n⟩ μ
theorem X2.rndEnd {P:Program} {nt n0 nt' n1:Nat} {Q:Xy->St->Mu->Prop} {ops:Array Oper} {l:List Oper} {K:List Kn} {L L1:List (Nat×AV)} {d:Option Nat} {μ μ1:Mu} {G:List (Nat×Obj)} {n:Nat}
  (h:X2 P nt n0 Q (.ops ops l) K ⟨fr (Xyx d (.sc (.bool true)) L),hp G,n⟩ μ):X2 P nt' n1 (rndQ P nt n0 Q ops l K L d μ) (.exit .normal) [] ⟨fr L1,hp G,n⟩ μ1 :=
 Cl.mk ⟨rfl,by show X2 P nt n0 Q (.ops ops l) K ⟨X9j (fr L) d (.sc (.bool true)),hp G,n⟩ μ;rw[<-X6c];exact h⟩
theorem X2.yield {P:Program} {nt n0 n b ntc m:Nat} {Q:Xy->St->Mu->Prop} {ops:Array Oper} {l:List Oper} {o:Oper} {K:List Kn} {L Lc:List (Nat×AV)} {G:List (Nat×Obj)} {μ:Mu} {x:Operand} {args:Array Operand} {ts:Array Nat} {r:Loop}
  {as:List AV} {qx qa:List Prop} {ps:Array Nat} {assign body:Code} (ho:o.op=.call { callee:=.value x,args:=args,argTypes:=ts }) (hg:o.guard=none) (hd:Xeq nt o.dst=true)
  (hx:rd L x=(.sc (.func (.yield b) #[] #[]),qx)) (ha:rds L args.toList=(as,qa)) (hqx:X4h qx) (hqa:X4h qa)
  (hμ:(b,.loop r ntc m (fr Lc))∈μ) (h1:r.state=.ready) (h2:r.pending=none) (h3:r.params=ps) (h4:r.assign=assign) (h5:r.body=body)
  (hps:(Nat.beq as.length ps.size&&ps.toList.all fun p=>Nat.blt p ntc)=true) (ht:(X6y assign||X6y body)=false)
  (h:X2 P ntc n (asgQ P ntc n body (rndQ P nt n0 Q ops l K L o.dst μ)) (.code assign) [] ⟨fr (zipL ps.toList as Lc),hp G,n⟩ []):X2 P nt n0 Q (.ops ops (o::l)) K ⟨fr L,hp G,n⟩ μ:=by
 subst h3 h4 h5
 simp only[Bool.and_eq_true,Nat.beq_eq,List.all_eq_true,Nat.blt_eq] at hps
 obtain⟨hp1,hp2⟩:=hps
 simp only[Bool.or_eq_false_iff] at ht
 intro c0 H0 c act g hm Qx hQ R hR
 cases R with
 |none=>rw[Xql hμ] at hR;exact absurd (hR rfl) (by simp)
 |some R =>
 refine X35 fun K' hK'=>?_
 rw[if_pos (by simp[Region.wanted,hg])]
 obtain⟨⟨hrec,hsz⟩,hmn,hAok,hA⟩:=hm.is _ hμ
 obtain⟨w1,w2,w3,w4⟩:=hm.away _ hμ
 have haw:Xwo c (hp G) b:=⟨w1,w2,w3⟩
 have hlt:b<c.w.heap.size:=(Array.getElem?_eq_some_iff.1 hrec).1
 have ex:act.eval x=.func (.yield b) #[] #[]:=by have:=g.ev x;rw[show evA (St.A ⟨fr L,hp G,n⟩) x=_ from X10 hx hqx] at this;exact this.sc_inv
 have hargs:args.toList.map (evA (fr L))=as:=Xf0 ha hqa
 have hlen:as.length=args.size:=by rw[<-hargs];simp
 have hy:=run_yield (P:=P) (args:=args.map act.eval) hrec (by rw[Array.size_map,<-hlen];exact hp1)
 have hrun:(execOp act.eval o).run P c.w=.ok (.round b r.fn ((r.params.zip (args.map act.eval)).foldl (fun tmps (t,a)=>tmps.setIfInBounds t a) r.tmps) r.assign r.body) c.w:=by
  simp only[execOp,ho,resolve,ex,Deferred.ofValue,Sem.run_bind,Sem.run_pure,Result.andThen_ok,invoke,Array.empty_append,Array.append_empty]
  exact hy
 show Oper.wpIn (FR R) 0 P o act c.w K' Qx
 refine⟨fun _ _=>trivial,?_⟩
 rw[Oper.semAt_eq _ _ _ (fun d hd=>by rw[hd] at ho;cases ho),hrun,Oper.uponIn_round]
 refine⟨fun h=>Bool.noConfusion h,roundIn_of_wpIn trivial ?_⟩
 have hz:(r.params.zip (args.map act.eval)).foldl (fun tmps (t,a)=>tmps.setIfInBounds t a) r.tmps=(r.params.toList.zip (args.toList.map act.eval)).foldl (fun t (p,v)=>t.setIfInBounds p v) r.tmps:=by
  rw[<-Array.foldl_toList];simp
 have hzip:=Xwp (c:=c) (n:=n) r.params.toList as (args.toList.map act.eval) Lc r.tmps (by rw[<-hargs];simp) (fun i a v h1 h2=>by
   rw[<-hargs,List.getElem?_map] at h1
   rw[List.getElem?_map] at h2
   cases hq:args.toList[i]? with
   |none=>simp[hq] at h1
   |some q =>
    simp only[hq,Option.map_some,Option.some.injEq] at h1 h2
    subst h1 h2
    exact⟨g.ev q,g.evOk q⟩) (fun p hp=>by rw[hsz];exact hp2 p hp) (fun t=>⟨hA t,(hAok t).mono fun q hq=>Nat.lt_of_lt_of_le hq (Nat.le_trans hmn g.le0)⟩)
 rw[<-hz] at hzip
 have gB:X3d ntc c (hp G) n c ⟨fr (zipL r.params.toList as Lc),hp G,n⟩ { tmps:=(r.params.zip (args.map act.eval)).foldl (fun tmps (t,a)=>tmps.setIfInBounds t a) r.tmps,defers:=[] } :=
  ⟨g.inv,g.solo,fun t=>(hzip.1 t).1,fun t=>(hzip.1 t).2,hzip.2.trans hsz,.refl _ _ _,Nat.le_refl _⟩
 refine wpIn_mono (X4l.ofCl h c (hp G) c _ gB (.nil rfl) (some b) (fun h=>by rw[ht.1] at h;cases h)) ?_
 rintro e a1 w' ⟨c1,s1,ae,μ1,rfl,g1,hm1,rfl,rfl,rfl,hbody⟩
 have hrec1:c1.w.heap[b]?=some (.loop r):=(g1.reach.block b hlt haw.ob).trans hrec
 refine⟨_,run_beginRound hrec1 h1,?_⟩
 have aw1:Xwo c1 s1.H b:=haw.kept hlt g1.reach
 obtain⟨g1',_⟩:=g1.turn0 (.loop { r with state:=.busy }) aw1
 refine wpIn_mono (hbody _ s1.H _ a1 g1' (.nil hm1.ds) (some b) (fun h=>by rw[ht.2] at h;cases h)) ?_
 rintro e a2 w' ⟨c2,s2,ae,μ2,rfl,g2,hm2,rfl,rfl,hk⟩
 have hlt1:b<c1.w.heap.size:=(Array.getElem?_eq_some_iff.1 hrec1).1
 have hrec2:c2.w.heap[b]?=some (.loop { r with state:=.busy }) :=
  (g2.reach.block b (by show b<(c1.w.putObj b _).heap.size;rw[World.putObj_size];exact hlt1) aw1.ob).trans (World.putObj_heap_same hlt1)
 have hr:({ r with state:=.ready,pending:=none }:Loop)=r:=by
  obtain⟨st,pe,fn,tm,pa,asg,bd,de⟩:=r
  simp only at h1 h2
  subst h1 h2;rfl
 have hend:=run_endRound (P:=P) none hrec2
 simp only[Option.isNone_none,if_true] at hend
 rw[hr] at hend
 refine⟨_,_,hend,?_⟩
 have aw2:Xwo c2 s2.H b:=(Xwo.mk aw1.sa aw1.so aw1.ob:Xwo { c1 with w:=c1.w.putObj b (.loop { r with state:=.busy }) } s1.H b).kept (by show b<(c1.w.putObj b _).heap.size;rw[World.putObj_size];exact hlt1) g2.reach
 obtain⟨g3,_⟩:=g2.turn0 (.loop r) aw2
 have rt:Reach c (hp G) n { c2 with w:=c2.w.putObj b (.loop r) } s2.H:=Reach.turnBack g1.reach g2.reach hrec haw
 have gf:=g.next (X6j hd) rt.le rt.sa rt.so2 rt.fr rt.own g3.inv g3.solo g3.le0 (a:=.sc (.bool true)) (v:=.bool true) .sc .sc
 exact hK' _ _ (hk c0 H0 _ _ gf (hm.kept (rt.weaken g.le0)) Qx hQ (some R) (fun h=>by cases h))
def Xi6:Code->List (Array Nat×Code×Code)
 |.loop b=>Xi6 b
 |.seq a b=>Xi6 a++Xi6 b
 |.block _ c=>Xi6 c
 |.scope c=>Xi6 c
 |.cond _ a b=>Xi6 a++Xi6 b
 |.rangeFunc _ ps a b=>(ps,a,b)::(Xi6 a++Xi6 b)
 |_=>[]
def rfB (i:Nat) (c:Code):Array Nat×Code×Code:=((Xi6 c)[i]?).getD (#[],.skip,.skip)
def Xig (slots:List Nat) (L:List (Nat×AV)):List (Nat×AV):=slots.map fun t=>(t,fr L t)
theorem Xpe (L:List (Nat×AV)):∀ (slots:List Nat) (t:Nat),fr (Xig slots L) t=fr L t\/fr (Xig slots L) t=.junk:=by
 intro slots
 induction slots with
 |nil=>intro t;exact .inr rfl
 |cons q r ih =>
  intro t
  show fr ((q,fr L q)::Xig r L) t=_\/fr ((q,fr L q)::Xig r L) t=_
  simp only[fr]
  cases hb:Nat.beq t q with
  |true=>rw[Nat.eq_of_beq_eq_true hb];exact .inl rfl
  |false=>exact ih t
theorem X2.keepL {P:Program} {nt n0 n:Nat} {Q:Xy->St->Mu->Prop} {cf:Cf} {K:List Kn} {L:List (Nat×AV)} {G:List (Nat×Obj)} {μ:Mu} (slots:List Nat) (h:X2 P nt n0 Q cf K ⟨fr (Xig slots L),hp G,n⟩ μ):X2 P nt n0 Q cf K ⟨fr L,hp G,n⟩ μ:=by
 refine X2.sub (s':=⟨fr (Xig slots L),hp G,n⟩) (fun c0 H0 c act μ g hm=>⟨⟨g.inv,g.solo,fun t=>?_,fun t=>?_,g.size,g.reach,g.le0⟩,hm⟩) h
 ·rcases Xpe L slots t with h|h
  ·show X0w c false (fr (Xig slots L) t) _;rw[h];exact g.frame t
  ·show X0w c false (fr (Xig slots L) t) _;rw[h];exact .junk
 ·rcases Xpe L slots t with h|h
  ·show(fr (Xig slots L) t).Ok _;rw[h];exact g.ok t
  ·show(fr (Xig slots L) t).Ok _;rw[h];exact .junk
def rfQ (P:Program) (nt n0:Nat) (Q:Xy->St->Mu->Prop) (K:List Kn) (L:List (Nat×AV)) (μ:Mu) (D:Nat) (μi:Mu):Xy->St->Mu->Prop :=
 fun e s μ'=>(∀ id,e≠.exit id)/\μ'=μi/\X2 P nt n0 Q (.exit .normal) K ⟨fr L,s.H,s.n⟩ ((D,.mark)::μ)
theorem X2.rfEnd {P:Program} {nt n0 nt' n1:Nat} {Q:Xy->St->Mu->Prop} {K:List Kn} {L L1:List (Nat×AV)} {μ μi:Mu} {D:Nat} {G:List (Nat×Obj)} {n:Nat} {e:Xy} (he:∀ id,e≠.exit id)
  (h:X2 P nt n0 Q (.exit .normal) K ⟨fr L,hp G,n⟩ ((D,.mark)::μ)):X2 P nt' n1 (rfQ P nt n0 Q K L μ D μi) (.exit e) [] ⟨fr L1,hp G,n⟩ μi :=
 Cl.mk ⟨he,rfl,h⟩
theorem X3d.alloc {nt n0:Nat} {c0 c:Ctx} {H0:X0b} {s:St} {act:Act} (o:Go.Obj) (g:X3d nt c0 H0 n0 c s act):X3d nt c0 H0 n0 { c with w:=c.w.alloc o } s act:=by
 obtain⟨h1,h2,h3⟩:=g.inv.waste (w':=c.w.alloc o) o rfl rfl rfl ⟨rfl,Nat.le_refl _⟩
 have:=g.next (c':={ c with w:=c.w.alloc o }) (dst:=none) (a:=.sc undef) (v:=undef) (fun d h=>by cases h) h1 rfl (fun b hb=>.inl hb) h3 (fun q x hx=>.inr ⟨q,x,hx,rfl⟩) h2 g.solo (Nat.le_refl _) .sc .sc
 exact this
theorem X2.rangeFunc {P:Program} {nt n0 n gf nti:Nat} {Q:Xy->St->Mu->Prop} {K:List Kn} {L:List (Nat×AV)} {G:List (Nat×Obj)} {μ:Mu} {g:Operand} {ps:Array Nat} {assign body codeI:Code} {fnI:Func} {caps:List AV} {q:List Prop}
  (hg:rd L g=(.fn gf caps,q)) (hq:X4h q) (hfn:X1v P gf fnI codeI) (hnt:fnI.ntmps=nti) (hle:Nat.ble (caps.length+1) nti=true) (hres:fnI.results=#[])
  (h:∀ (b D:Nat) (r:Loop),r.state=.ready->r.pending=none->r.params=ps->r.assign=assign->r.body=body ->
   X2 P nti n (rfQ P nt n0 Q K L μ D [(b,.loop r nt n (fr L)),(D,.blk (.deferred (some [])))]) (.code codeI) [] ⟨fr (argL 0 (.sc (.func (.yield b) #[] #[])::caps)),hp G,n⟩ [(b,.loop r nt n (fr L)),(D,.blk (.deferred (some [])))]) :
  X2 P nt n0 Q (.code (.rangeFunc g ps assign body)) K ⟨fr L,hp G,n⟩ μ:=by
 intro c0 H0 c act gd hm R hR
 obtain rfl:=hR rfl
 have hv:=gd.ev g
 rw[show evA (St.A ⟨fr L,hp G,n⟩) g=_ from X10 hg hq] at hv
 have hvo:=gd.evOk g
 rw[show evA (St.A ⟨fr L,hp G,n⟩) g=_ from X10 hg hq] at hvo
 obtain⟨cv,hcv,hcl,hcr⟩:=hv.fn_inv
 refine wpIn_rangeFunc ?_
 intro fn _
 let D:=c.w.heap.size
 let b:=c.w.heap.size+1
 let rec0:Loop:={ state:=.ready,pending:=none,fn,tmps:=act.tmps,params:=ps,assign,body,defers:=c.w.heap.size }
 let W1:World:=(c.w.alloc (.deferred (some []))).alloc (.loop rec0)
 let c1:Ctx:={ c with w:=W1 }
 have hL1:W1.heap[b]?=some (.loop rec0):=by
  have:=World.alloc_heap_new (c.w.alloc (.deferred (some []))) (.loop rec0);rwa [World.size_alloc] at this
 have hK1:W1.heap[D]?=some (.deferred (some [])):=(RowKit.Below.heap_alloc _ _ _ (by simp[D])).trans (World.alloc_heap_new c.w _)
 have hs1:W1.heap.size=c.w.heap.size+2:=by simp[W1]
 have g1:X3d nt c (hp G) n0 c1 ⟨fr L,hp G,n⟩ act:=(gd.rebase.alloc (.deferred (some []))).alloc (.loop rec0)
 have hold:∀ k,k<c.w.heap.size->W1.heap[k]?=c.w.heap[k]?:=fun k hk=>(RowKit.Below.heap_alloc _ _ _ (by simp;omega)).trans (RowKit.Below.heap_alloc _ _ _ hk)
 have r1:Reach c (hp G) n c1 (hp G):=⟨fun _ _=>rfl,rfl,rfl,⟨rfl,Nat.le_refl _⟩,by show c.w.heap.size<=W1.heap.size;omega,fun k hk _=>hold k hk,fun k hk=>hold k (gd.inv.lt k hk),rfl,fun _ h=>h,fun _ h=>.inl h,rfl,fun o x hx=>.inr ⟨o,x,hx,rfl⟩⟩
 have hob:∀ o x,hp G o=some x->(c.ρ o).blk<c.w.heap.size:=fun o x hx=>by
  obtain⟨_,⟨⟨cur,hcb,_⟩,_⟩,_⟩:=gd.inv.obj o x hx
  exact(Array.getElem?_eq_some_iff.1 hcb).1
 let vs:Array Value:=#[.func (.yield b) #[] #[]]++cv
 have hvs:vs.size=caps.length+1:=by simp[vs,<-hcl];omega
 have gI:X3d nti c (hp G) n c1 ⟨fr (argL 0 (.sc (.func (.yield b) #[] #[])::caps)),hp G,n⟩ { tmps:=vs++Array.replicate (fnI.ntmps - vs.size) undef,defers:=[] }:=by
  have hrel:Xfs c1 false (.sc (.func (.yield b) #[] #[])::caps) vs:=by
   refine⟨by rw[hvs];simp,fun i a v ha hv=>?_⟩
   cases i with
   |zero =>
    have hv':vs[0]?=some (.func (.yield b) #[] #[]):=by simp only[vs];rw[Array.getElem?_append_left (by simp)];rfl
    rw[hv'] at hv
    simp only[List.getElem?_cons_zero,Option.some.injEq] at ha hv
    subst ha hv;exact .sc
   |succ i =>
    have hv':cv[i]?=some v:=by
     simp only[vs] at hv
     rw[Array.getElem?_append_right (by simp)] at hv
     simpa using hv
    simp only[List.getElem?_cons_succ] at ha
    refine(hcr i a v ha hv').mono r1.le (.inr ?_)
    cases hvo with|fn hvo=>exact hvo a (List.mem_of_getElem? ha)
  have hok:∀ a∈(.sc (.func (.yield b) #[] #[])::caps:List AV),a.Ok (·<n):=by
   intro a ha
   rcases List.mem_cons.1 ha with rfl|ha
   ·exact .sc
   ·cases hvo with|fn hvo=>exact hvo a ha
  have:X3d nti c (hp G) n c1 ⟨Xml (.sc (.func (.yield b) #[] #[])::caps),hp G,n⟩ { tmps:=vs++Array.replicate (fnI.ntmps - vs.size) undef,defers:=[] } :=
   ⟨g1.inv,g1.solo,fun t=>Xa7 hrel _ t,fun t=>Xhy hok t,by have:=Nat.le_of_ble_eq_true hle;simp only[Array.size_append,Array.size_replicate];omega,r1,Nat.le_refl _⟩
  exact this.argL
 have mI:MOk n c c1 (hp G) [(b,.loop rec0 nt n (fr L)),(D,.blk (.deferred (some [])))] { tmps:=vs++Array.replicate (fnI.ntmps - vs.size) undef,defers:=[] }:=by
  refine⟨fun p hp=>?_,fun p hp=>?_,by simp[b,D],rfl⟩
  ·simp only[List.mem_cons,List.not_mem_nil,or_false] at hp
   rcases hp with rfl|rfl
   ·exact⟨⟨hL1,gd.size⟩,Nat.le_refl _,fun t=>gd.ok t,fun t=>g1.frame t⟩
   ·exact hK1
  ·simp only[List.mem_cons,List.not_mem_nil,or_false] at hp
   have key:∀ k,c.w.heap.size<=k->¬ c1.Sa k/\¬ c1.So k/\(∀ o x,Av.hp G o=some x->(c1.ρ o).blk≠k)/\c.w.heap.size<=k:=fun k hk =>
    ⟨fun hs=>by have:=gd.inv.lt k (.inl hs);omega,fun hs=>by have:=gd.inv.lt k (.inr hs);omega,fun o x hx e=>by have h1:=hob o x hx;have h2:(c.ρ o).blk=k:=e;omega,hk⟩
   rcases hp with rfl|rfl
   ·exact key b (by simp[b])
   ·exact key D (Nat.le_refl _)
 refine⟨b,[{ target:=.collected D,args:=#[] }],W1,{ target:=.fn (.func gf) cv,args:=#[.func (.yield b) #[] #[]] },W1,gf,vs,W1,run_enterLoop_outer _ _ _ _ _,?_,fun _ _=>trivial,?_,fun h=>Bool.noConfusion h,?_⟩
 ·simp only[resolve,hcv]
  simp[go_sem]
 ·simp only[invoke,callFunc,Sem.run_bind,run_program,Result.andThen_ok,hfn.here,hfn.name,hfn.body,Option.isNone_some,Bool.false_eq_true,if_false]
  rfl
 refine callsIn_of_wp hfn.here hfn.body trivial ?_ rfl
 refine wpIn_mono (X4l.ofCl (h b D rec0 rfl rfl rfl rfl rfl) c (hp G) c1 _ gI mI none .none) ?_
 rintro e a w' ⟨c2,s2,ae,μ2,rfl,g2,hm2,rfl,hne,rfl,hk⟩
 have hds:a.defers=[]:=hm2.ds
 have fin:a.defers=[]/\∃ v,(results fnI a.tmps).run P c2.w=.ok v c2.w/\rangePost (FR none) 0 P b (MQ nt c0 H0 n0 (Xbb P nt n0 Q K)) { act with defers:=[{ target:=.collected D,args:=#[] }]++act.defers } (.returned v) c2.w:=by
  obtain⟨⟨hrec,_⟩,_⟩:=hm2.is (b,.loop rec0 nt n (fr L)) (by simp)
  have hDk:c2.w.heap[D]?=some (.deferred (some [])):=hm2.is (D,.blk (.deferred (some []))) (by simp)
  obtain⟨x1,x2,x3,x4⟩:=hm2.away (b,.loop rec0 nt n (fr L)) (by simp)
  obtain⟨y1,y2,y3,y4⟩:=hm2.away (D,.blk (.deferred (some []))) (by simp)
  obtain⟨g3,hle3⟩:=g2.turn (.loop { rec0 with state:=.exhausted }) x1 x2 x3 x4
  refine⟨hds,.tuple #[],by simp[results,hres,go_sem],?_⟩
  refine⟨none,_,run_endLoop hrec (by simp[rec0]),?_⟩
  have rt:=g3.reach
  have gc:=gd.next (dst:=none) (a:=.sc undef) (v:=undef) (fun d h=>by cases h) rt.le rt.sa rt.so2 rt.fr rt.own g3.inv g3.solo g3.le0 .sc .sc
  have gc2:X3d nt c0 H0 n0 { c2 with w:=c2.w.putObj b (.loop { rec0 with state:=.exhausted }) } ⟨fr L,s2.H,s2.n⟩ { act with defers:=[{ target:=.collected D,args:=#[] }]++act.defers } :=
   ⟨gc.inv,gc.solo,gc.frame,gc.ok,gc.size,gc.reach,gc.le0⟩
  have hmk:=hm.kept (rt.weaken gd.le0) (act':=act) rfl
  refine⟨_,⟨fr L,s2.H,s2.n⟩,.normal,(D,.mark)::μ,rfl,gc2,⟨fun p hp=>?_,fun p hp=>?_,?_,?_⟩,rfl,hk⟩
  ·rcases List.mem_cons.1 hp with rfl|hp
   ·exact(World.putObj_heap_other (by simp[b,D])).trans hDk
   ·exact hmk.is p hp
  ·rcases List.mem_cons.1 hp with rfl|hp
   ·exact⟨y1,y2,y3,Nat.le_trans gd.reach.size y4⟩
   ·exact hmk.away p hp
  ·refine List.nodup_cons.2 ⟨fun hmem=>?_,hm.nodup⟩
   obtain⟨p,hp,he⟩:=List.mem_map.1 hmem
   have:=(hm.is p hp).lt
   simp only[D] at he
   omega
  ·show[_]++act.defers=_::dsOf μ
   rw[hm.ds];rfl
 cases ae with
 |exit id=>exact(hne id rfl).elim
 |normal=>exact fin
 |ret=>exact fin
end Go.Av


namespace Go.Av
def StTo (nt n0:Nat) (s s':St):Prop:=∀ (c0:Ctx) (H0:X0b) (c:Ctx) (act:Act) (μ:Mu),X3d nt c0 H0 n0 c s act->MOk n0 c0 c s.H μ act->∃ c',c'.w=c.w/\X3d nt c0 H0 n0 c' s' act/\MOk n0 c0 c' s'.H μ act
section
variable {P:Program} {nt n0:Nat} {s s':St} {Q:Xy->St->Mu->Prop} {μ:Mu}
theorem StTo.loop (hw:StTo nt n0 s s') {b:Code} (h:X7t P nt n0 b Q s' μ):X7t P nt n0 b Q s μ:=by
 intro c0 H0 c act g hm R hR
 obtain⟨c',hc,g',hm'⟩:=hw c0 H0 c act μ g hm
 have:=h c0 H0 c' act g' hm' R hR
 rwa [hc] at this
theorem StTo.semM (hw:StTo nt n0 s s') {c:Code} (h:X4l P nt n0 c Q s' μ):X4l P nt n0 c Q s μ:=by
 intro c0 H0 c act g hm R hR
 obtain⟨c',hc,g',hm'⟩:=hw c0 H0 c act μ g hm
 have:=h c0 H0 c' act g' hm' R hR
 rwa [hc] at this
theorem Xbb.to (hw:StTo nt n0 s s'):∀ (K:List Kn) (e:Xy),Xbb P nt n0 Q K e s' μ->Xbb P nt n0 Q K e s μ:=by
 intro K
 induction K with
 |nil =>
  intro e h c0 H0 c act g hm
  obtain⟨c',hc,g',hm'⟩:=hw c0 H0 c act μ g hm
  obtain⟨c2,s2,h1,h2⟩:=h c0 H0 c' act g' hm'
  exact⟨c2,s2,h1.trans hc,h2⟩
 |cons k K ih =>
  intro e h
  cases k with
  |seq c =>
   cases e with
   |normal=>exact hw.semM h
   |exit i=>exact ih _ h
   |ret=>exact ih _ h
  |block id =>
   cases e with
   |normal=>exact ih _ h
   |ret=>exact ih _ h
   |exit i =>
    have h':X6n id (Xbb P nt n0 Q K) (.exit i) s' μ:=h
    show X6n id (Xbb P nt n0 Q K) (.exit i) s μ
    simp only[X6n] at h' ⊢
    cases hb:Nat.beq i id with
    |true=>rw[hb,cond_true] at h';exact ih _ h'
    |false=>rw[hb,cond_false] at h';exact ih _ h'
  |loop b =>
   cases e with
   |normal=>exact hw.loop h
   |exit i=>exact ih _ h
   |ret=>exact ih _ h
theorem X2.to {cf:Cf} {K:List Kn} (hw:StTo nt n0 s s') (h:X2 P nt n0 Q cf K s' μ):X2 P nt n0 Q cf K s μ:=by
 cases cf with
 |code c=>exact hw.semM h
 |exit e=>exact Xbb.to hw K e h
 |ops ops l =>
  intro c0 H0 c act g hm Qx hQ R hR
  obtain⟨c',hc,g',hm'⟩:=hw c0 H0 c act μ g hm
  have:=h c0 H0 c' act g' hm' Qx hQ R hR
  rwa [hc] at this
 |loop b=>exact hw.loop h
end
def FrzC (o n:Nat) (es:List AV) (a a':AV):Prop:=a'=a\/(a=.ref o 0 n/\a'=.list true es)
def FrzE (o n:Nat) (es:List AV) (e e':AV):Prop:=e.cells.length=e'.cells.length/\∀ (k:Nat) a a',e.cells[k]?=some a->e'.cells[k]?=some a'->FrzC o n es a a'
def Xp1 (o n:Nat) (es l l':List AV):Prop:=l.length=l'.length/\∀ (i:Nat) e e',l[i]?=some e->l'[i]?=some e'->FrzE o n es e e'
theorem Xus {o n:Nat} {es:List AV} {e:AV}:FrzE o n es e e:=⟨rfl,fun k a a' h h'=>.inl (by rw[h] at h';exact(Option.some.inj h').symm)⟩
theorem Xpt {o n:Nat} {es l:List AV}:Xp1 o n es l l:=⟨rfl,fun i e e' h h'=>by rw[h] at h';cases h';exact Xus⟩
theorem X01e {o n:Nat} {es:List AV}:Xp1 o n es [] []:=Xpt
theorem Xy4 {o n:Nat} {es l l':List AV} {e e':AV} (h:FrzE o n es e e') (t:Xp1 o n es l l'):Xp1 o n es (e::l) (e'::l'):=by
 refine⟨by simp[t.1],fun i a b ha hb=>?_⟩
 cases i with
 |zero=>simp at ha hb;subst ha hb;exact h
 |succ i=>simp at ha hb;exact t.2 i a b ha hb
theorem Xy5 {o n m:Nat} {es:List AV} (h:m=n):FrzE o n es (.ref o 0 m) (.list true es):=by
 subst h
 refine⟨rfl,fun k a a' ha ha'=>?_⟩
 cases k with
 |zero=>simp[AV.cells] at ha ha';subst ha ha';exact .inr ⟨rfl,rfl⟩
 |succ k=>simp[AV.cells] at ha
def FrzV (o n:Nat) (es:List AV) (a a':AV):Prop:=FrzC o n es a a'\/∃ cs cs',a=.agg cs/\a'=.agg cs'/\cs.length=cs'.length/\∀ (k:Nat) b b',cs[k]?=some b->cs'[k]?=some b'->FrzC o n es b b'
def X01g (o:Nat) (es:List AV) (a:AV):AV:=match a with
 |.ref q off len=>bif Nat.beq q o then .list true es else .ref q off len
 |a=>a
def Xm5 (o:Nat):List AV->Bool
 |[]=>false
 |.ref q _ _::r=>bif Nat.beq q o then true else Xm5 o r
 |_::r=>Xm5 o r
def frzA (o:Nat) (es:List AV) (a:AV):AV:=match a with
 |.ref q off len=>bif Nat.beq q o then .list true es else .ref q off len
 |.agg cs=>bif Xm5 o cs then .agg (cs.map (X01g o es)) else a
 |a=>a
def Xkq (o n:Nat) (a:AV):Prop:=match a with
 |.ref q off len=>bif Nat.beq q o then (off=0/\len=n) else True
 |_=>True
def Xup (o n:Nat):List AV->Prop
 |[]=>True
 |a::r=>Xkq o n a/\Xup o n r
def Xuq (o n:Nat) (a:AV):Prop:=match a with
 |.ref q off len=>bif Nat.beq q o then (off=0/\len=n) else True
 |.agg cs=>bif Xm5 o cs then Xup o n cs else True
 |_=>True
theorem Xut {o n:Nat} {es:List AV} {a:AV} (h:Xkq o n a):FrzC o n es a (X01g o es a):=by
 unfold X01g
 split
 ·rename_i q off len
  simp only[Xkq] at h
  cases hqo:Nat.beq q o with
  |false=>rw[cond_false];exact .inl rfl
  |true =>
   rw[hqo,cond_true] at h
   obtain rfl:=Nat.eq_of_beq_eq_true hqo
   obtain⟨rfl,rfl⟩:=h
   rw[cond_true];exact .inr ⟨rfl,rfl⟩
 ·exact .inl rfl
theorem Xrw {o n:Nat}:∀ {cs:List AV},Xup o n cs->∀ (k:Nat) b,cs[k]?=some b->Xkq o n b:=by
 intro cs
 induction cs with
 |nil=>intro _ k b h;simp at h
 |cons a r ih =>
  rintro⟨h1,h2⟩ k b hb
  cases k with
  |zero=>simp at hb;subst hb;exact h1
  |succ k=>simp at hb;exact ih h2 k b hb
def Xhk (slots:List Nat) (o:Nat) (es:List AV) (L:List (Nat×AV)):List (Nat×AV):=slots.map fun t=>(t,frzA o es (fr L t))
def Xkp (o n:Nat) (L:List (Nat×AV)):List Nat->Prop
 |[]=>True
 |t::r=>Xuq o n (fr L t)/\Xkp o n L r
def X01f (G:List (Nat×Obj)) (o n:Nat) (es:List AV):List (Nat×Obj)->Prop
 |[]=>True
 |(q,x')::r=>(Nat.beq q o=false/\wkG1 x'.gone (∃ x,hp G q=some x/\x'.esz=x.esz/\x'.solo=true/\x'.spent=false/\Xp1 o n es x.es x'.es))/\X01f G o n es r
theorem Xrv {o n:Nat} {es:List AV} {L:List (Nat×AV)}:∀ {slots:List Nat},Xkp o n L slots->∀ t,fr (Xhk slots o es L) t=.junk\/FrzV o n es (fr L t) (fr (Xhk slots o es L) t):=by
 intro slots
 induction slots with
 |nil=>intro _ t;exact .inl rfl
 |cons q r ih =>
  rintro⟨h1,h2⟩ t
  have he:fr (Xhk (q::r) o es L) t=bif Nat.beq t q then frzA o es (fr L q) else fr (Xhk r o es L) t:=rfl
  cases hb:Nat.beq t q with
  |false=>rw[he,hb,cond_false];exact ih h2 t
  |true =>
   obtain rfl:=Nat.eq_of_beq_eq_true hb
   rw[he,hb,cond_true]
   refine .inr ?_
   unfold frzA
   split
   ·rename_i q off len hq
    rw[hq]
    simp only[Xuq,hq] at h1
    exact .inl (Xut (a:=.ref q off len) h1)
   ·rename_i cs hq
    simp only[Xuq,hq] at h1
    cases hh:Xm5 o cs with
    |false=>rw[cond_false];exact .inl (.inl rfl)
    |true =>
     rw[hh,cond_true] at h1
     rw[cond_true]
     refine .inr ⟨cs,_,hq,rfl,by simp,fun k b b' hk hk'=>?_⟩
     rw[List.getElem?_map,hk] at hk'
     simp only[Option.map_some,Option.some.injEq] at hk'
     subst hk'
     exact Xut (Xrw h1 k b hk)
   ·exact .inl (.inl rfl)
theorem Xur {G:List (Nat×Obj)} {o n:Nat} {es:List AV}:∀ {G':List (Nat×Obj)},X01f G o n es G'->∀ q x',hp G' q=some x'->q≠o/\∃ x,hp G q=some x/\x'.esz=x.esz/\x'.solo=true/\x'.spent=false/\Xp1 o n es x.es x'.es:=by
 intro G'
 induction G' with
 |nil=>intro _ q x' h;cases h
 |cons p r ih =>
  obtain⟨d,y⟩:=p
  rintro⟨h1,h2⟩ q x' hx
  have he:hp ((d,y)::r) q=bif Nat.beq q d then (bif y.gone then none else some y) else hp r q:=rfl
  cases hb:Nat.beq q d with
  |false=>rw[he,hb,cond_false] at hx;exact ih h2 q x' hx
  |true =>
   obtain rfl:=Nat.eq_of_beq_eq_true hb
   rw[he,hb,cond_true] at hx
   cases hg:y.gone with
   |true=>rw[hg] at hx;cases hx
   |false =>
    have h1b:=h1.2
    rw[hg] at hx h1b
    cases hx
    exact⟨(fun e=>by subst e;have h3:=h1.1;rw[Nat.beq_refl] at h3;cases h3),h1b⟩
theorem Xuu {nt n0 n o:Nat} {L L':List (Nat×AV)} {G G':List (Nat×Obj)} {y:Obj} (hy:hp G o=some y) (hf:∀ e∈y.es,X92 e)
  (hL:∀ t,fr L' t=.junk\/FrzV o y.es.length y.es (fr L t) (fr L' t))
  (hG:∀ q x',hp G' q=some x'->q≠o/\∃ x,hp G q=some x/\x'.esz=x.esz/\x'.solo=true/\x'.spent=false/\Xp1 o y.es.length y.es x.es x'.es):StTo nt n0 ⟨fr L,hp G,n⟩ ⟨fr L',hp G',n⟩:=by
 intro c0 H0 c act μ g hm
 let c':Ctx:={ c with So:=fun b=>c.So b\/b=(c.ρ o).blk }
 have hle:∀ {M:Nat->Prop},c.Le M c':=⟨fun _ _=>rfl,fun _ h=>h,fun _ h=>.inl h,fun _ _=>rfl,rfl⟩
 obtain⟨hoM,hor,hok⟩:=g.inv.obj o y hy
 have hblk:(c.ρ o).blk<c.w.heap.size:=by
  obtain⟨⟨cur,hb,_⟩,_⟩:=hor
  exact(Array.getElem?_eq_some_iff.1 hb).1
 let Hr:X0b:=fun q=>if q=o then some y else none
 have hIr:Inv c Hr (·<n):=by
  refine g.inv.forget (fun q x hx=>?_) (fun q q' x x' hx hx' hne hb=>?_)
  ·by_cases hq:q=o
   ·have hx2:y=x:=by simpa[Hr,hq] using hx
    exact⟨y,by rw[hq];exact hy,by rw[hx2],by rw[hx2],fun h=>by rw[hx2];exact h⟩
   ·simp[Hr,hq] at hx
  ·exfalso
   by_cases hq:q=o
   ·by_cases hq':q'=o
    ·exact hne (hq.trans hq'.symm)
    ·simp[Hr,hq'] at hx'
   ·simp[Hr,hq] at hx
 have hcv:Cv true Hr (.ref o 0 y.es.length) (.list true y.es):=by
  refine .ref (x:=y) (by simp[Hr]) (by omega) rfl (fun i e e' he he'=>?_) (fun i e e' k a b he he' ha hb=>?_)
  ·rw[Nat.zero_add] at he;rw[he] at he';cases he';rfl
  ·rw[Nat.zero_add] at he;rw[he] at he';cases he'
   rw[ha] at hb;cases hb
   obtain⟨v,rfl⟩:=hf e (List.mem_of_getElem? he) a (List.mem_of_getElem? ha)
   exact .sc
 have hfrz:∀ {v:Value},X0w c false (.ref o 0 y.es.length) v->X0w c' false (.list true y.es) v:=fun {v} hv =>
  (Xv9 hIr (c':=c') rfl (fun b hb=>hb.elim (fun h=>.inl ⟨rfl,h⟩) (fun h=>.inr (.inl h))) (fun _ b hb=>.inl hb) (fun q x hx=>by
   by_cases hq:q=o
   ·subst hq;exact .inr (.inr rfl)
   ·simp[Hr,hq] at hx) hcv hv).shallow
 have hsep:∀ q x,hp G q=some x->q≠o->(c.ρ q).blk≠(c.ρ o).blk:=fun q x hx hne hb=>by
  have:=(g.inv.sep q o x y hx hy hne hb).1
  rw[(g.solo q x hx).1] at this;cases this
 have hcell:∀ {a a':AV} {v:Value},FrzC o y.es.length y.es a a'->X0w c false a v->a.Ok (·<n)->X0w c' false a' v/\a'.Ok (·<n):=by
  rintro a a' v (rfl|⟨rfl,rfl⟩) hv hk
  ·exact⟨hv.mono (M:=(·<n)) hle (.inr hk),hk⟩
  ·exact⟨hfrz hv,.list⟩
 have gI:Inv c' (hp G') (·<n):=by
  refine⟨fun q x' hx'=>?_,fun q q' x1 x2 h1 h2 hne hb=>?_,fun q x' hx'=>?_,fun b hb=>?_,g.inv.base,fun b hb=>?_,fun q x' hx'=>?_⟩
  ·obtain⟨hne,x,hx,hz,_,_,hF⟩:=hG q x' hx'
   obtain⟨i1,⟨⟨cur,hb,hs,hc⟩,i3,i4,i5⟩,i6⟩:=g.inv.obj q x hx
   have hget:∀ (i:Nat) e',x'.es[i]?=some e'->∃ e,x.es[i]?=some e/\FrzE o y.es.length y.es e e':=fun i e' he'=>by
    have hlt:i<x.es.length:=by rw[hF.1];exact(List.getElem?_eq_some_iff.1 he').1
    exact⟨_,List.getElem?_eq_getElem hlt,hF.2 i _ e' (List.getElem?_eq_getElem hlt) he'⟩
   refine⟨i1,⟨⟨cur,hb,hs,fun i e' he'=>?_⟩,by rw[<-hF.1];exact i3,i4,by rw[hz];exact i5⟩,fun e' he' a' ha'=>?_⟩
   ·obtain⟨e,he,hfe⟩:=hget i e' he'
    obtain⟨k1,k2⟩:=hc i e he
    refine⟨hfe.1.symm.trans k1,fun k a' ha'=>?_⟩
    have hlt:k<e.cells.length:=by rw[hfe.1];exact(List.getElem?_eq_some_iff.1 ha').1
    obtain⟨v,v1,v2,v3⟩:=k2 k _ (List.getElem?_eq_getElem hlt)
    exact⟨v,v1,(hcell (hfe.2 k _ a' (List.getElem?_eq_getElem hlt) ha') v2 (i6 e (List.mem_of_getElem? he) _ (List.getElem_mem hlt))).1,v3⟩
   ·obtain⟨i,hi⟩:=List.getElem?_of_mem he'
    obtain⟨e,he,hfe⟩:=hget i e' hi
    obtain⟨k,hk⟩:=List.getElem?_of_mem ha'
    have hlt:k<e.cells.length:=by rw[hfe.1];exact(List.getElem?_eq_some_iff.1 hk).1
    rcases hfe.2 k _ a' (List.getElem?_eq_getElem hlt) hk with h|⟨_,h⟩
    ·rw[h];exact i6 e (List.mem_of_getElem? he) _ (List.getElem_mem hlt)
    ·rw[h];exact .list
  ·obtain⟨_,y1,hy1,_⟩:=hG q x1 h1
   obtain⟨_,y2,hy2,_⟩:=hG q' x2 h2
   have:=(g.inv.sep q q' y1 y2 hy1 hy2 hne hb).1
   rw[(g.solo q y1 hy1).1] at this;cases this
  ·obtain⟨hne,x,hx,_⟩:=hG q x' hx'
   have:=g.inv.stab q x hx
   exact⟨this.1,fun h=>h.elim this.2 (hsep q x hx hne)⟩
  ·rcases hb with hb|hb|hb
   ·exact g.inv.lt b (.inl hb)
   ·exact g.inv.lt b (.inr hb)
   ·show b<c.w.heap.size
    rw[hb];exact hblk
  ·rcases hb with hb|hb
   ·exact g.inv.own b hb
   ·show c.B<=b
    rw[hb];exact g.inv.low o y hy
  ·obtain⟨_,x,hx,_⟩:=hG q x' hx'
   exact g.inv.low q x hx
 have r:=g.reach
 refine⟨c',rfl,⟨gI,fun q x' hx'=>?_,fun t=>?_,fun t=>?_,g.size,⟨r.rho,r.os,r.tape,r.output,r.size,r.block,r.stable,r.sa,fun b hb=>.inl (r.so1 b hb),fun b hb=>?_,r.B,fun q x' hx'=>?_⟩,g.le0⟩,⟨fun p hp=>(hm.is p hp).le rfl hle,fun p hp=>?_,hm.nodup,hm.ds⟩⟩
 ·obtain⟨_,_,_,_,h1,h2,_⟩:=hG q x' hx'
  exact⟨h1,h2⟩
 ·show X0w c' false (fr L' t) _
  rcases hL t with h|h|⟨cs,cs',h1,h2,hl,hc⟩
  ·rw[h];exact .junk
  ·exact(hcell h (g.frame t) (g.ok t)).1
  ·rw[h2]
   have hfv:=g.frame t
   have hfo:=g.ok t
   rw[show St.A ⟨fr L,hp G,n⟩ t=_ from h1] at hfv hfo
   cases hfo with
   |agg hko =>
    generalize hvv:act.tmps.getD _ undef=vv at hfv
    cases hfv with
    |agg hls hoc hrl =>
     refine .agg (by omega) hoc fun i a' v ha' hv=>?_
     have hlt:i<cs.length:=by rw[hl];exact(List.getElem?_eq_some_iff.1 ha').1
     exact(hcell (hc i _ a' (List.getElem?_eq_getElem hlt) ha') (hrl i _ v (List.getElem?_eq_getElem hlt) hv) (hko _ (List.getElem_mem hlt))).1
 ·show(fr L' t).Ok _
  rcases hL t with h|h|⟨cs,cs',h1,h2,hl,hc⟩
  ·rw[h];exact .junk
  ·exact(hcell h (g.frame t) (g.ok t)).2
  ·rw[h2]
   have hfv:=g.frame t
   have hfo:=g.ok t
   rw[show St.A ⟨fr L,hp G,n⟩ t=_ from h1] at hfv hfo
   cases hfo with
   |agg hko =>
    refine .agg fun a' ha'=>?_
    obtain⟨i,hi⟩:=List.getElem?_of_mem ha'
    have hlt:i<cs.length:=by rw[hl];exact(List.getElem?_eq_some_iff.1 hi).1
    rcases hc i _ a' (List.getElem?_eq_getElem hlt) hi with h|⟨_,h⟩
    ·rw[h];exact hko _ (List.getElem_mem hlt)
    ·rw[h];exact .list
 ·rcases hb with hb|hb
  ·exact r.so2 b hb
  ·rw[hb]
   exact .inr (r.own o y hy)
 ·obtain⟨_,x,hx,_⟩:=hG q x' hx'
  exact r.own q x hx
 ·obtain⟨a1,a2,a3,a4⟩:=hm.away p hp
  exact⟨a1,fun h=>h.elim a2 (fun h=>a3 o y hy h.symm),fun q x' hx'=>by obtain⟨_,x,hx,_⟩:=hG q x' hx';exact a3 q x hx,a4⟩
theorem X2.freeze {P:Program} {nt n0 n:Nat} {Q:Xy->St->Mu->Prop} {cf:Cf} {K:List Kn} {L:List (Nat×AV)} {G:List (Nat×Obj)} {μ:Mu} (o:Nat) (es:List AV) (slots:List Nat) (G':List (Nat×Obj)) {y:Obj} (hy:hp G o=some y) (he:y.es=es) (hf:∀ e∈es,X92 e)
  (h:X2 P nt n0 Q cf K ⟨fr (Xhk slots o es L),hp G',n⟩ μ) (hL:Xkp o es.length L slots) (hG:X01f G o es.length es G'):X2 P nt n0 Q cf K ⟨fr L,hp G,n⟩ μ:=by
 subst he
 exact X2.to (Xuu hy hf (Xrv hL) (Xur hG)) h
def X7w:List Bool->List AV->List AV
 |true::m,c::cs=>denC c::X7w m cs
 |false::m,c::cs=>c::X7w m cs
 |_,cs=>cs
theorem Xs6:∀ (m:List Bool) (cs:List AV),(X7w m cs).length=cs.length/\∀ (k:Nat) a',(X7w m cs)[k]?=some a'->∃ a,cs[k]?=some a/\(a'=a\/a'=denC a):=by
 intro m
 induction m with
 |nil=>intro cs;exact⟨rfl,fun k a' h=>⟨a',h,.inl rfl⟩⟩
 |cons b m ih =>
  intro cs
  cases cs with
  |nil=>cases b<;>exact⟨rfl,fun k a' h=>⟨a',h,.inl rfl⟩⟩
  |cons c cs =>
   obtain⟨h1,h2⟩:=ih cs
   cases b with
   |true =>
    refine⟨by simp[X7w,h1],fun k a' h=>?_⟩
    cases k with
    |zero=>simp[X7w] at h;exact⟨c,rfl,.inr h.symm⟩
    |succ k=>simp[X7w] at h;simpa using h2 k a' h
   |false =>
    refine⟨by simp[X7w,h1],fun k a' h=>?_⟩
    cases k with
    |zero=>simp[X7w] at h;exact⟨c,rfl,.inl h.symm⟩
    |succ k=>simp[X7w] at h;simpa using h2 k a' h
theorem X2.denilF {P:Program} {nt n0 n:Nat} {Q:Xy->St->Mu->Prop} {cf:Cf} {K:List Kn} {μ:Mu} {L:List (Nat×AV)} {H:X0b} (t:Nat) (m:List Bool) (cs':List AV) {cs:List AV} (h0:fr L t=.agg cs) (he:X7w m cs=cs')
  (h:X2 P nt n0 Q cf K ⟨fr ((t,.agg cs')::L),H,n⟩ μ):X2 P nt n0 Q cf K ⟨fr L,H,n⟩ μ:=by
 subst he
 obtain⟨hl,hg⟩:=Xs6 m cs
 refine X2.sub (s':=⟨fr ((t,.agg (X7w m cs))::L),H,n⟩) (fun c0 H0 c act μ g hm=>⟨?_,hm⟩) h
 have hfr:∀ q,fr ((t,.agg (X7w m cs))::L) q=if q=t then .agg (X7w m cs) else fr L q:=by
  intro q
  simp only[fr]
  by_cases hq:q=t
  ·subst hq;simp
  ·have:Nat.beq q t=false:=by rw[<-Bool.not_eq_true,Nat.beq_eq];exact hq
   rw[this,if_neg hq];rfl
 refine⟨g.inv,g.solo,fun q=>?_,fun q=>?_,g.size,g.reach,g.le0⟩
 ·show X0w c false (fr ((t,.agg (X7w m cs))::L) q) _
  rw[hfr]
  by_cases hq:q=t
  ·subst hq
   rw[if_pos rfl]
   have hfv:=g.frame q
   rw[show St.A ⟨fr L,H,n⟩ q=.agg cs from h0] at hfv
   generalize hvv:act.tmps.getD _ undef=vv at hfv
   cases hfv with
   |agg hls hoc hrl =>
    refine .agg (by omega) hoc fun i a' v ha' hv=>?_
    obtain⟨a,ha,hc⟩:=hg i a' ha'
    rcases hc with rfl|rfl
    ·exact hrl i _ v ha hv
    ·exact Xyf (hrl i _ v ha hv)
  ·rw[if_neg hq];exact g.frame q
 ·show(fr ((t,.agg (X7w m cs))::L) q).Ok _
  rw[hfr]
  by_cases hq:q=t
  ·subst hq
   rw[if_pos rfl]
   have hfo:=g.ok q
   rw[show St.A ⟨fr L,H,n⟩ q=.agg cs from h0] at hfo
   cases hfo with
   |agg hko =>
    refine .agg fun a' ha'=>?_
    obtain⟨i,hi⟩:=List.getElem?_of_mem ha'
    obtain⟨a,ha,hc⟩:=hg i a' hi
    rcases hc with rfl|rfl
    ·exact hko _ (List.mem_of_getElem? ha)
    ·exact X01r (hko _ (List.mem_of_getElem? ha))
  ·rw[if_neg hq];exact g.ok q
theorem Xcj {P:Prop} (h:P:=by
 first
  |exact trivial
  |rfl
  |exact⟨rfl,rfl⟩
  |(refine⟨rfl,?_⟩;first|rfl|(simp;done)|(simp;rfl)|(simp[*];done))
  |exact⟨rfl,_,rfl,rfl,rfl,rfl,Xpt⟩
  |(refine⟨rfl,_,rfl,rfl,rfl,rfl,Xy4 (Xy5 ?_) X01e⟩;first|rfl|(simp;done)|(simp[*];done))):P:=h
end Go.Av


namespace Go.Av
open Go.D
class Xc3 {α:Type} (f:α->AV):Prop where
 flat:∀ x,X92 (f x)
 whole:∀ x,(f x).whole=true
 still:∀ x,X7o (f x)
instance iInt {k:IntKind}:Xc3 (aI k):=⟨fun _=>Xf9,fun _=>rfl,fun _=>X5q⟩
instance X074:Xc3 aB:=⟨fun _=>Xf9,fun _=>rfl,fun _=>X5q⟩
class X040 {α:Type} (g:Bool->α->AV):Prop where
 cva:∀ {H:X0b} {o:Bool} {x:α},Cv false H (g o x) (g false x)
 cvt:∀ {H:X0b} {o:Bool} {x:α},Cv true H (g o x) (g o x)
 len:∀ (o o':Bool) (x:α),(g o x).cells.length=(g o' x).cells.length
 free:∀ (o:Bool) (x:α),Xb3 (g o x)
 still:∀ (o:Bool) (x:α),X7o (g o x)
theorem cvLf {α:Type} {f:α->AV} [i:Xc3 f] {H:X0b} {o:Bool} {l:List α}:Cv false H (.list o (l.map f)) (.list false (l.map f)):=Xb0 (X22 i.flat l)
theorem cvLe {α:Type} {f:α->AV} [i:Xc3 f] {H:X0b} {o p:Bool} {l:List (List α)}:Cv false H (.list o (l.map (X7p p f))) (.list false (l.map (X7p false f))) :=
 X01v (f:=X7p p f) (g:=X7p false f) (fun _=>rfl) (fun x=>Xq3 (show Cv false H (.list p (x.map f)) (.list false (x.map f)) from cvLf)) l
theorem cvRe {α:Type} {f:α->AV} [i:Xc3 f] (p:Bool) {H:X0b} {o n:Nat} {x:Obj} {l:List (List α)} (hH:H o=some x) (he:x.es=l.map (X7p p f)) (hn:n=l.length):Cv false H (.ref o 0 n) (.list false (l.map (X7p false f))) :=
 X01u (f:=X7p p f) (g:=X7p false f) hH he hn (fun _=>rfl) (fun x=>Xq3 (show Cv false H (.list p (x.map f)) (.list false (x.map f)) from cvLf))
theorem cvR {α:Type} {f:α->AV} [i:Xc3 f] {m:Bool} {H:X0b} {o n:Nat} {x:Obj} {l:List α} (hH:H o=some x) (he:x.es=l.map f) (hn:n=(l.map f).length):Cv m H (.ref o 0 n) (.list m (l.map f)) :=
 Xmi hH he hn (X22 i.flat l)
theorem ownL {α:Type} {f:α->AV} [i:Xc3 f] {l:List α}:Xi1 (.list true (l.map f)):=Xtj (X22 i.flat l)
def CvE (m:Bool) (H:X0b) (e e':AV):Prop:=e.cells.length=e'.cells.length/\∀ (k:Nat) a b,e.cells[k]?=some a->e'.cells[k]?=some b->Cv m H a b
def CvL (m:Bool) (H:X0b) (l l':List AV):Prop:=l.length=l'.length/\∀ (i:Nat) e e',l[i]?=some e->l'[i]?=some e'->CvE m H e e'
theorem CvL.nil {m:Bool} {H:X0b}:CvL m H [] []:=⟨rfl,fun i e e' h=>by simp at h⟩
theorem CvL.cons {m:Bool} {H:X0b} {e e':AV} {l l':List AV} (h:CvE m H e e') (t:CvL m H l l'):CvL m H (e::l) (e'::l'):=by
 refine⟨by simp[t.1],fun i a b ha hb=>?_⟩
 cases i with
 |zero=>simp at ha hb;subst ha;subst hb;exact h
 |succ i=>simp at ha hb;exact t.2 i a b ha hb
theorem X01x {m:Bool} {H:X0b} {cs cs':List AV} (h:Cvs m H cs cs'):CvE m H (.agg cs) (.agg cs'):=⟨h.len,h.rel⟩
theorem X01t {m:Bool} {H:X0b} {o n:Nat} {x:Obj} {es:List AV} (hH:H o=some x) (h:CvL m H x.es es) (hn:n=es.length):Cv m H (.ref o 0 n) (.list m es):=by
 subst hn
 refine .ref hH (by rw[h.1];omega) rfl (fun i e e' he he'=>?_) (fun i e e' k a b he he' ha hb=>?_)
 ·rw[Nat.zero_add] at he;exact(h.2 i e e' he he').1
 ·rw[Nat.zero_add] at he;exact(h.2 i e e' he he').2 k a b ha hb
theorem cvM {P:Prop} (h:P:=by
 repeat' first
  |exact Cvs.nil
  |refine Cvs.cons ?_ ?_
  |exact Cv.sc
  |exact Cv.fn0
  |exact Cv.listS rfl
  |exact cvLf
  |exact cvW
  |exact cvGt
  |exact cvG
  |exact cvLg
  |exact cvLe
  |refine X03s ?_
  |exact Cv.nils
  |exact cvNil (by first|rfl|assumption|(simp;done)|(simp[*];done)|fail)
  |exact cvR rfl (by first|rfl|(simp;done)|(simp;rfl)|(simp[*];done)|(simp[*];rfl)|fail) (by first|rfl|(simp;done)|(simp;omega)|(simp[*];done)|(simp[*];omega)|fail)
  |exact cvRt rfl (by first|rfl|(simp;done)|(simp;rfl)|(simp[*];done)|fail) (by first|rfl|(simp;done)|(simp;omega)|(simp[*];done)|fail)
  |exact cvRg true rfl (by first|rfl|(simp;done)|(simp;rfl)|(simp[*];done)|fail) (by first|rfl|(simp;done)|(simp;omega)|(simp[*];done)|fail)
  |exact cvRg false rfl (by first|rfl|(simp;done)|(simp;rfl)|(simp[*];done)|fail) (by first|rfl|(simp;done)|(simp;omega)|(simp[*];done)|fail)
  |exact cvRe true rfl (by first|rfl|(simp;done)|(simp;rfl)|(simp[*];done)|fail) (by first|rfl|(simp;done)|(simp;omega)|(simp[*];done)|fail)
  |exact cvRe false rfl (by first|rfl|(simp;done)|(simp;rfl)|(simp[*];done)|fail) (by first|rfl|(simp;done)|(simp;omega)|(simp[*];done)|fail)
  |exact cvRf rfl (by first|rfl|(simp;done)|(simp;rfl)|(simp[*];done)|fail) (by first|rfl|(simp;done)|(simp;omega)|(simp[*];done)|fail)
  |exact cvLq (by first|rfl|(simp;done)|(simp[*];done)|fail)
  |exact cv_leqS (by first|rfl|(simp;done)|(simp[*];done)|fail)
  |exact cv_scE (by first|rfl|(simp;done)|(simp[*];done)|fail)
  |refine Xva ?_
  |exact Cv.nils0
  |refine X01t rfl ?_ rfl
  |exact CvL.nil
  |refine CvL.cons ?_ ?_
  |refine X01x ?_
  |refine cvE_one ?_ rfl rfl
  |refine Cv.weak ?_
 first|done|fail):P:=h
theorem ownM {P:Prop} (h:P:=by
 repeat' first
  |exact .sc
  |exact ownL
  |exact ownW
  |refine Xlk ?_
  |refine X1g ?_ ?_
  |exact X7x
  |refine Xi1.agg ?_
 first|done|fail):P:=h
class PCs (P:Program) (f:Nat) (S:outParam Prop):Prop where
 ok:S
theorem pcN {P:Program} {f:Nat} {H:X0b} {as bs:List AV} {r:AV} {S:Prop} [i:PCs P f S] (k:S->X0o P f bs r) (hc:Cvs false (fun _=>none) as bs):X55 P f H as bs r:=.none (k i.ok) hc
theorem pcL {P:Program} {f:Nat} {H:X0b} {as bs:List AV} {r:AV} {S:Prop} [i:PCs P f S] (k:S->X0o P f bs r) (hc:Cvs false H as bs) (ho:Xi1 r):X55 P f H as bs r:=.lent (k i.ok) hc ho
theorem pcM {P:Prop} (h:P:=by
 first
  |exact pcN (by intro K;apply K;assumption) cvM
  |exact pcL (by intro K;apply K;assumption) cvM ownM):P:=h
theorem X08 {P:Prop} (h:P:=by
 repeat' first
  |refine And.intro ?_ ?_
  |exact trivial
  |exact pcM
  |exact oblA
 first|done|fail):P:=h
theorem X04k {cs:List AV} {M:Nat->Prop} (h:∀ a∈cs,a.Ok M):∀ e∈[AV.agg cs],∀ a∈e.cells,a.Ok M:=fun e he=>by rw[List.mem_singleton.1 he];exact h
def Xwy (f:Nat->Nat):List AV->List AV->Prop
 |[],[]=>True
 |a::r,b::s=>a=b.ren f/\Xwy f r s
 |_,_=>False
theorem Xpc {f:Nat->Nat}:∀ {cs cs':List AV},Xwy f cs cs'->cs=AV.rens f cs'
 |[],[],_=>rfl
 |a::r,b::s,h=>by
  show a::r=AV.ren f b::AV.rens f s
  rw[<-h.1,<-Xpc h.2]
 |[],_::_,h=>h.elim
 |_::_,[],h=>h.elim
theorem aggV {f:Nat->Nat} {cs cs':List AV} (h:Xwy f cs cs'):AV.agg cs=(AV.agg cs').ren f:=by rw[Xpc h];rfl
theorem aggR {f:Nat->Nat} {cs cs':List AV} (h:Xwy f cs cs'):[AV.agg cs]=[AV.agg cs'].map (AV.ren f):=by rw[aggV h];rfl
theorem refR {f:Nat->Nat} {i j n m:Nat} (hi:j=f i) (h:n=m):AV.ref j 0 n=(AV.ref i 0 m).ren f:=by rw[hi,h];rfl
theorem X069 {M:Nat->Prop} {cs:List AV} (h:∀ a∈cs,a.Ok M):(AV.agg cs).Ok M:=.agg h
class TmD (P:Program) (T:outParam Ty):Prop where
 ok:X9s P T/\P.follows .mixedOrders=true
abbrev nbS {α:Type} {l:List α} (h:l=[]:=by first|rfl|simp[*]):Nb l:=nbT h
theorem okF {α:Type} {f:α->AV} [i:Xc3 f] {x:α} {M:Nat->Prop}:(f x).Ok M:=(X47 (i.flat x) (i.whole x) M).1
theorem okG {α:Type} {g:Bool->α->AV} [i:X040 g] {o:Bool} {x:α} {M:Nat->Prop}:(g o x).Ok M:=(i.free o x M).1
theorem okM {P:Prop} (h:P:=by
 repeat' first
  |exact X7x
  |refine X1g ?_ ?_
  |exact .sc
  |exact .list
  |exact Xtk
  |exact okF
  |exact okG
 first|done|fail):P:=h
theorem bI {α β:Type} {x:Option α} {f:α->Option β} {r:β} {G:Prop} (k:∀ v,x=some v->f v=some r->G):x.bind f=some r->G:=fun h=>X03w h k
theorem brI {α:Type} {c:Bool} {a b:Option α} {r:α} {G:Prop} (h1:c=true->a=some r->G) (h2:c=false->b=some r->G):(bif c then a else b)=some r->G:=fun h=>brE h h1 h2
theorem oj {α:Type} {a b:α} (h:some a=some b):a=b:=Option.some.inj h
theorem X0y {P:Program} {T:Ty} {nt n0:Nat} {μ:Mu} {Q:Xy->St->Mu->Prop} {cf cf':Cf} {K K':List Kn} {L L':List (Nat×AV)} {G G':List (Nat×Obj)} {n n':Nat} {hs':List X59} {ps':List Prop} [hT:TmD P T] (hs:List X59)
  (k:X2 P nt n0 Q cf' K' ⟨fr L',hp G',n'⟩ μ) (h:X9z P T nt 4000 cf K L G n hs []=some (cf',K',L',G',n',hs',ps'):=by exact rfl) (o:X4h ps':=by exact X08):X2 P nt n0 Q cf K ⟨fr L,hp G,n⟩ μ:=Xpb hT.ok 4000 hs h o k
theorem rnI {A:Prop} {P:Program} {T:Ty} {nt n0:Nat} {μ:Mu} {Q:Xy->St->Mu->Prop} {cf cf':Cf} {K K':List Kn} {L L':List (Nat×AV)} {G G':List (Nat×Obj)} {n n':Nat} {hs':List X59} {ps':List Prop} [hT:TmD P T] (hs:List X59)
  (k:A->X2 P nt n0 Q cf' K' ⟨fr L',hp G',n'⟩ μ) (h:X9z P T nt 4000 cf K L G n hs []=some (cf',K',L',G',n',hs',ps'):=by exact rfl) (o:X4h ps':=by exact X08):A->X2 P nt n0 Q cf K ⟨fr L,hp G,n⟩ μ:=fun a=>Xpb hT.ok 4000 hs h o (k a)
theorem X8 {P:Program} {T:Ty} {nt n0:Nat} {μ:Mu} {Q:Xy->St->Mu->Prop} {cf cf':Cf} {K K':List Kn} {L L':List (Nat×AV)} {G G':List (Nat×Obj)} {n n':Nat} {hs':List X59} {ps':List Prop} [hT:TmD P T] (hs:List X59)
  (h:X9z P T nt 4000 cf K L G n hs []=some (cf',K',L',G',n',hs',ps'):=by exact rfl) (o:X4h ps':=by exact X08) (k:X2 P nt n0 Q cf' K' ⟨fr L',hp G',n'⟩ μ):X2 P nt n0 Q cf K ⟨fr L,hp G,n⟩ μ:=Xpb hT.ok 4000 hs h o k
theorem fi {P:Program} {T:Ty} {nt n0:Nat} {fn:Func} {r:AV} {L:List (Nat×AV)} {G:List (Nat×Obj)} {n:Nat} {μ:Mu} {rs:List AV} (hr:Xvu T L G fn.results.toList=some rs:=by exact rfl) (hc:Cv true (hp G) (Xb9 rs) r:=by exact cvM):X2 P nt n0 (Xx5 T fn r) (.exit .ret) [] ⟨fr L,hp G,n⟩ μ:=Xuy hr hc
end Go.Av


namespace Go.Av
inductive Tab (V:Type) where
 |leaf
 |node (k:Nat) (v:V) (l r:Tab V)
noncomputable def Tab.find {V:Type} (t:Tab V):Nat->Option V :=
 Tab.rec (motive:=fun _=>Nat->Option V) (fun _=>none) (fun k v _ _ ihl ihr n=>bif Nat.beq n k then some v else bif Nat.blt n k then ihl n else ihr n) t
theorem Tab.find_node {V:Type} (k:Nat) (v:V) (l r:Tab V) (t:Nat):(Tab.node k v l r).find t=bif Nat.beq t k then some v else bif Nat.blt t k then l.find t else r.find t:=rfl
def Tab.All {V:Type} (p:Nat->V->Prop):Tab V->Prop
 |.leaf=>True
 |.node k v l r=>p k v/\l.All p/\r.All p
theorem Tab.find_all {V:Type} {p:Nat->V->Prop}:∀ (t:Tab V),t.All p->∀ k v,t.find k=some v->p k v:=by
 intro t
 induction t with
 |leaf=>intro _ k v h;cases h
 |node k' v' l r ihl ihr =>
  intro h k v hf
  obtain⟨h1,h2,h3⟩:=h
  rw[Tab.find_node] at hf
  cases hb:Nat.beq k k' with
  |true =>
   rw[hb,cond_true] at hf
   cases hf
   have:k=k':=Nat.eq_of_beq_eq_true hb
   subst this;exact h1
  |false =>
   rw[hb,cond_false] at hf
   cases hlt:Nat.blt k k' with
   |true=>rw[hlt,cond_true] at hf;exact ihl h2 k v hf
   |false=>rw[hlt,cond_false] at hf;exact ihr h3 k v hf
theorem Xws {P:Program} {t:Tab TI} (h:t.All (X27 P)):X9s P t.find:=fun k v hf=>t.find_all h k v hf
theorem X4i {P:Program} {t:Nat} {i:TypeInfo} {d:TypeDesc} {z:Value} (hi:P.info? t=some i) (hd:P.underlying t=some d) (hz:i.zero=some z)
  (hw:((X2i z).whole&&Nat.beq (X2i z).cells.length i.size)=true):X27 P t ⟨Xx d,i.size,i.bytes,z,false⟩:=by
 simp only[Bool.and_eq_true] at hw
 exact⟨⟨i,d,hi,hd,hz,rfl,rfl,rfl⟩,⟨hw.1,Nat.eq_of_beq_eq_true hw.2⟩,fun h=>by cases h⟩
theorem Xdz {P:Program} {t:Nat} {i:TypeInfo} {d:TypeDesc} {z:Value} (hi:P.info? t=some i) (hd:P.underlying t=some d) (hz:i.zero=some z)
  (hw:((X2i z).whole&&Nat.beq (X2i z).cells.length i.size)=true) (h1:P.stoodInHeld t=false) (h2:P.eqGuardType P.depth t=false)
  (h3 : (match d with | .struct fs => fs.toList.all (fun f => !(f.name == "_")) | _ => true) = true) : X27 P t ⟨Xx d, i.size, i.bytes, z, true⟩ := by
 simp only[Bool.and_eq_true] at hw
 refine⟨⟨i,d,hi,hd,hz,rfl,rfl,rfl⟩,⟨hw.1,Nat.eq_of_beq_eq_true hw.2⟩,fun _=>⟨h1,h2,fun fs hfs f hf=>?_⟩⟩
 rw[hd] at hfs
 cases hfs
 have:=List.all_eq_true.1 h3 f (by simpa using hf)
 simpa using this
def Xl (fn:Func):Code:=fn.body.getD .skip
end Go.Av
