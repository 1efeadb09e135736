/- Walks of the library's own text at elements of more cells than one: what they lean on; calls by a contract over the heap. -/
import Derived.Test.YtomaojndejpfgaaGreatDoorAvc
import Derived.Shelf.RegionOpenPlain
import Derived.WalkKit
import Derived.Lib.Walk
import Derived.Lib.Overlaps
import Derived.Laws.IdiomCopy
import Derived.Laws.NewBlocks
set_option linter.all false
set_option maxHeartbeats 4000000

namespace Go.Av
variable [Gls]
open Go.RowKit Go.Lib
section
variable {P:Program}
theorem Xfk {dT sT ty elem:TypeId} {g o K dLen dCap sLen sCap:Nat} {a:Addr} {w:World} {cur:Array Value} {e':TypeId} {cs:List Value}
  (hu:P.underlying dT=some (.slice elem)) (hz:∀ w,(Go.sizeOf elem).run P w=.ok K w) (hn:cs.length=(min sLen dLen)*K) (hsrc:∀ (j:Nat) v,cs[j]?=some v->w.cell? (a.add j)=some v)
  (hg:w.heap[g]?=some (.cells cur e' (0,0))) (hfit:o+cs.length<=cur.size) (h1:∀ v∈cs,v.oneCell'=true) :
  (Builtin.copy_ #[dT,sT] ty #[.slice (some ⟨g,o,none⟩) dLen dCap,.slice (some a) sLen sCap]).run P w=.ok (goInt (min sLen dLen:Nat)) (w.setRow g (cur.toList.take o++cs++cur.toList.drop (o+cs.length)).toArray):=by
 have hl:=run_loadCells_list (P:=P) w a cs hsrc;have hst:=run_storeCells_at P g o e' cs 0 cur w hg (by grind) h1
 simp_all [Nat.add_zero,Nat.min,Builtin.copy_,run_underlying,Builtin.lenOf,Builtin.firstCells]
theorem Xhj (w:World) {ops:Array Oper} {rest:List Oper} {o:Oper} {a:Act} {Q:Exit->Act->World->Prop} (hgd:o.guard=none) (d s:Operand) (t t':TypeId)
  (ho:o.op=.call { callee:=.builtin .copy,args:=#[d,s],argTypes:=#[t,t'] }) (v u:Value) (hd:a.eval d=v) (hs:a.eval s=u) {v':Value} {w':World}
  (hr:(Builtin.copy_ #[t,t'] o.type #[v,u]).run P w=.ok v' w') (h:wpList P ops Q rest (a.put o.dst v') w'):wpList P ops Q (o::rest) a w :=
 wpList_plain hgd λ_ hK=>by
  unfold Oper.wp execOp;simp only[ho,resolve,invoke,builtin,Sem.run_bind,Sem.run_pure,Result.andThen_ok,List.map_toArray,List.map_cons,List.map_nil,hd,hs,hr];exact hK _ _ h
theorem Xmv {ops:Array Oper} {o:Oper} {a:Act} {w:World} {K:Act->World->Prop} {Q:Exit->Act->World->Prop} {E:Prop}
  (hg:o.guard=none) (d x:Operand) (dT sT:TypeId) (hop:o.op=Op.call { callee:=Callee.builtin Builtin.copy,args:=#[d,x],argTypes:=#[dT,sT] })
  (v u:Value) (hd:a.eval d=v) (hx:a.eval x=u) {v':Value} {w':World} (hr:(Builtin.copy_ #[dT,sT] o.type #[v,u]).run P w=.ok v' w') (hK:K (a.put o.dst v') w') :
  if Region.wanted o (yielded ops a.tmps)=true then Oper.wp P o a w K Q else E:=by
 have hw:Region.wanted o (yielded ops a.tmps)=true:=by simp[Region.wanted,hg]
 rw[if_pos hw];unfold Oper.wp;simp[execOp,hop,resolve,invoke,builtin,hd,hx,hr,Result.andThen];exact hK
end
theorem Xpz {P:Program} {ops:Array Oper} {o:Oper} {a:Act} {w:World} {K:Act->World->Prop} {Q:Exit->Act->World->Prop} {E:Prop}
  (hg:o.guard=none) (d x:Operand) (dT sT:TypeId) (hop:o.op=Op.call { callee:=Callee.builtin Builtin.append,args:=#[d,x],argTypes:=#[dT,sT] })
  (v u:Value) (hd:a.eval d=v) (hx:a.eval x=u) {v':Value} {w':World} (hr:(Builtin.append_ #[dT,sT] o.type #[v,u]).run P w=.ok v' w') (hK:K (a.put o.dst v') w') :
  if Region.wanted o (yielded ops a.tmps)=true then Oper.wp P o a w K Q else E:=by
 have hw:Region.wanted o (yielded ops a.tmps)=true:=by simp[Region.wanted,hg]
 rw[if_pos hw];unfold Oper.wp;simp[execOp,hop,resolve,invoke,builtin,hd,hx,hr,Result.andThen];exact hK
theorem Xvy {P:Program} {t e ty:TypeId} {g o n cap:Nat} {w:World} {cur:Array Value} {e':TypeId} {z:Value} (hu:P.underlying t=some (.slice e)) (hv:∀ w,(zeroValue e).run P w=.ok z w) (hn:0<n)
  (hg:w.heap[g]?=some (.cells cur e' (0,0))) (hfit:o+(Builtin.zeroCells z.cells n).toList.length<=cur.size) (h1:∀ v∈(Builtin.zeroCells z.cells n).toList,v.oneCell'=true) :
  (Builtin.clear_ #[t] ty #[.slice (some ⟨g,o,none⟩) n cap]).run P w=.ok (.tuple #[]) (w.setRow g (cur.toList.take o++(Builtin.zeroCells z.cells n).toList++cur.toList.drop (o+(Builtin.zeroCells z.cells n).toList.length)).toArray):=by
 have hst:=run_storeCells_at P g o e' (Builtin.zeroCells z.cells n).toList 0 cur w hg (by grind) h1;simp only[Nat.add_zero] at hst;obtain⟨m,rfl⟩:∃ m,n=m+1:=⟨n - 1,by omega⟩
 simp_all [Builtin.clear_,run_underlying]
theorem X7.hcall {P:Program} {nt n0 f:Nat} {Q:Xr->St->Mu->Prop} {ops:Array Oper} {l:List Oper} {o:Oper} {K:List Kn} {L:List (Nat×AV)} {G:List (Nat×Obj)} {n:Nat} {μ:Mu} {x:Operand} {args:Array Operand} {ts:Array Nat}
  {caps avs:List AV} {r:AV} {G':List (Nat×Obj)} {n':Nat} (ho:o.op=.call { callee:=.value x,args:=args,argTypes:=ts }) (hg:o.guard=none) (hd:Xec nt o.dst=true) {qx qa:List Prop} (hx:rd L x=(.fn f caps,qx)) (ha:rds L args.toList=(avs,qa)) (hpx:X4q qx) (hpa:X4q qa)
  (hc:HC P f (avs++caps) (hp G) n (λr2 H2 n2=>r2=r/\H2=hp G'/\n2=n'))
  (h:X7 P nt n0 Q (.ops ops l) K ⟨fr (putO o.dst r L),hp G',n'⟩ μ):X7 P nt n0 Q (.ops ops (o::l)) K ⟨fr L,hp G,n⟩ μ:=by
 refine X2i.plain (s:=⟨fr L,hp G,n⟩) hg (X5i hd) (OpR.call (s:=⟨fr L,hp G,n⟩) ho (X0v hx hpx) ?_) (R:=λr2 H2 n2=>r2=r/\H2=hp G'/\n2=n') ?_
 ·rw[Xeh ha hpa];exact hc
 ·rintro _ _ _ ⟨rfl,rfl,rfl⟩;rw[X6l] at h;exact h
end Go.Av
namespace Go.Av
def Xck (cur:Array Value) (o:Nat) (vs:List Value):Array Value:=(cur.toList.take o++vs++cur.toList.drop (o+vs.length)).toArray
theorem X9i {cur:Array Value} {o:Nat} {vs:List Value} (h:o+vs.length<=cur.size):(Xck cur o vs).size=cur.size:=by
 grind [Xck,List.size_toArray,List.length_append,List.length_take,List.length_drop,Array.length_toList]
theorem X4t {cur:Array Value} {o:Nat} {vs:List Value} (h:o+vs.length<=cur.size) (j:Nat):(Xck cur o vs)[j]?=if o<=j/\j<o+vs.length then vs[j - o]? else cur[j]?:=by
 simp only[Xck,List.append_assoc,List.getElem?_toArray]
 grind
theorem Xhn {w:World} {b:Nat} {cur R1 R2:Array Value} {ety:TypeId} (h:w.heap[b]?=some (.cells cur ety (0,0))):((w.drew.setRow b R1).setRow b R2).heap=(w.setRow b R2).heap:=by
 apply Array.ext_getElem?;intro q;have h1:(w.drew.setRow b R1).heap[b]?=some (.cells R1 ety (0,0)):=setRow_heap w.drew b cur R1 ety (0,0) h;by_cases hq:q=b
 ·subst hq;rw[setRow_heap _ q R1 R2 ety (0,0) h1,setRow_heap w q cur R2 ety (0,0) h]
 ·rw[setRow_other _ _ _ _ hq,setRow_other _ _ _ _ hq,setRow_other _ _ _ _ hq];rfl
theorem Xvw {w:World} {ROW R1 R2:Array Value} {ety:TypeId}:((((w.alloc (.cells ROW ety)).drew.setRow w.heap.size R1).drew).setRow w.heap.size R2).heap=w.heap.push (.cells R2 ety):=by
 apply Array.ext_getElem?;intro q;have h0:(w.alloc (.cells ROW ety)).drew.heap[w.heap.size]?=some (.cells ROW ety (0,0)):=by
  show(w.heap.push _)[w.heap.size]?=_;simp
 have h1:((w.alloc (.cells ROW ety)).drew.setRow w.heap.size R1).drew.heap[w.heap.size]?=some (.cells R1 ety (0,0)):=setRow_heap _ _ ROW R1 ety (0,0) h0;by_cases hq:q=w.heap.size
 ·grind [setRow_heap]
 ·rw[setRow_other _ _ _ _ hq];show((w.alloc (.cells ROW ety)).drew.setRow w.heap.size R1).heap[q]?=_;rw[setRow_other _ _ _ _ hq];show(w.heap.push _)[q]?=_
  grind
variable [Gls]
def Ends (c:Ctx) (H:Xz) (n:Nat) (w':World) (c':Ctx) (H':Xz):Prop :=
 c'.w=w'/\c.Le (·<n) c'/\c'.Sa=c.Sa/\(∀ b,c'.So b->c.So b\/c.w.heap.size<=b\/∃ o x,H o=some x/\(c.ρ o).blk=b)/\Fr c H w'/\X8m c H c' H'/\Inv c' H' (·<n+1)/\(∀ o x,H' o=some x->x.solo=true/\x.spent=false)
theorem Xge {c:Ctx} {H:Xz} {n o:Nat} {y:Obj} {es':List AV} {cur new:Array Value} {w':World} (hI:Inv c H (·<n)) (hs:∀ o x,H o=some x->x.solo=true/\x.spent=false) (hH:H o=some y)
  (hcb:c.w.heap[(c.ρ o).blk]?=some (.cells cur (c.ρ o).ety (0,0))) (hnsz:new.size=cur.size) (hlen:es'.length<=(c.ρ o).cap)
  (hrel:∀ (i:Nat) e,es'[i]?=some e->e.cells.length=(c.ρ o).esz/\∀ (k:Nat) a,e.cells[k]?=some a->a.Ok (·<n)/\∃ v,new[i*(c.ρ o).esz+k]?=some v/\X0h c false a v/\v.oneCell'=true)
  (hw:w'.heap=(c.w.setRow (c.ρ o).blk new).heap) (h1:w'.os=c.w.os) (h2:w'.tape=c.w.tape) (h3:w'.output=c.w.output/\dr c.w<=dr w') :
  ∃ c',c'.ρ n=c.ρ o/\Ends c H n w' c' (upd (upd H o none) n (some { y with es:=es' })):=by
 obtain⟨hle,hI1,hfr,hown⟩:=Xkc hI hH (hs o y hH).1 hcb hnsz hlen hrel;have hMo:=(hI.obj o y hH).1;have hle2:Ctx.Le (·<n) ⟨c.w.setRow (c.ρ o).blk new,c.ρ,c.Sa,c.So,c.B⟩ ⟨w',upd c.ρ n (c.ρ o),c.Sa,c.So,c.B⟩ :=
  ⟨λq hq=>Xk _ _ (Nat.ne_of_lt hq),λ_ h=>h,λ_ h=>h,λb _=>by grind,rfl⟩
 have hcase:∀ q z,upd (upd H o none) n (some { y with es:=es' }) q=some z->∃ q',upd H o (some { y with es:=es' }) q'=some z/\upd c.ρ n (c.ρ o) q=c.ρ q'/\((q=n/\q'=o)\/(q≠n/\q≠o/\q'=q)):=by
  grind [Xi,Xk]
 have hsolo:∀ q z,upd (upd H o none) n (some { y with es:=es' }) q=some z->z.solo=true/\z.spent=false:=by
  intro q z hz;obtain⟨q',hz',_,_⟩:=hcase q z hz;by_cases hq:q'=o
  ·subst hq;rw[Xi] at hz';cases hz';exact hs q' y hH
  ·rw[Xk _ _ hq] at hz';exact hs q' z hz'
 refine⟨⟨w',upd c.ρ n (c.ρ o),c.Sa,c.So,c.B⟩,Xi _ _ _,rfl,hle.trans hle2,rfl,λ_ h=>.inl h,?_,?_,⟨?_,?_,?_,?_,?_,hI.own,?_,hI.glob.mono (hle.trans hle2)⟩,hsolo⟩
 ·refine⟨h1,h2,h3,by rw[hw];exact hfr.size,λb hb hn=>by rw[hw];exact hfr.block b hb hn⟩
 ·intro q z hz;obtain⟨q',hz',hr,_⟩:=hcase q z hz;rcases hown q' z hz' with h|⟨p,x,h4,h5⟩
  ·exact .inl (by show _<=(upd c.ρ n (c.ρ o) q).blk;rw[hr];exact h)
  ·exact .inr ⟨p,x,h4,by show _=(upd c.ρ n (c.ρ o) q).blk;rw[hr];exact h5⟩
 ·intro q z hz;obtain⟨q',hz',hr,hq⟩:=hcase q z hz;obtain⟨g1,⟨⟨cur1,gb,gs,gc⟩,gf,gp,ge⟩,gk⟩:=hI1.obj q' z hz';refine⟨?_,⟨⟨cur1,?_,?_,?_⟩,?_,?_,?_⟩,λe he a ha=>(gk e he a ha).mono λp hp=>Nat.lt_succ_of_lt hp⟩
  ·rcases hq with ⟨h4,_⟩|⟨_,_,h4⟩
   ·show q<n+1;omega
   ·subst h4;exact Nat.lt_succ_of_lt g1
  ·show w'.heap[(upd c.ρ n (c.ρ o) q).blk]?=some (.cells cur1 (upd c.ρ n (c.ρ o) q).ety (0,0));rw[hw,hr];exact gb
  ·show _=(upd c.ρ n (c.ρ o) q).cap*(upd c.ρ n (c.ρ o) q).esz;rw[hr];exact gs
  ·intro i e he;obtain⟨k1,k2⟩:=gc i e he;refine⟨by show _=(upd c.ρ n (c.ρ o) q).esz;rw[hr];exact k1,λk a ha=>?_⟩;obtain⟨v,hv,hvr,hv1⟩:=k2 k a ha;exact⟨v,by show cur1[i*(upd c.ρ n (c.ρ o) q).esz+k]?=_;rw[hr];exact hv,hvr.mono hle2 (.inr (gk e (List.mem_of_getElem? he) a (List.mem_of_getElem? ha))),hv1⟩
  ·show _<=(upd c.ρ n (c.ρ o) q).cap;rw[hr];exact gf
  ·show 0<(upd c.ρ n (c.ρ o) q).esz;rw[hr];exact gp
  ·show _=(upd c.ρ n (c.ρ o) q).esz;rw[hr];exact ge
 ·intro q p z x hz hx hqp hb;obtain⟨q',hz',hr,hq⟩:=hcase q z hz;obtain⟨p',hx',hr',hp⟩:=hcase p x hx;have hb':(c.ρ q').blk=(c.ρ p').blk:=by grind
  have hne:q'≠p':=by
   grind
  have:=(hI1.sep q' p' z x hz' hx' hne hb').1
  grind
 ·intro q z hz;obtain⟨q',hz',hr,_⟩:=hcase q z hz;have:=hI1.stab q' z hz'
  grind
 ·intro b hb;have:=hI1.lt b hb
  grind
 ·show c.B<=w'.heap.size;rw[hw];exact hI1.base
 ·intro q z hz;obtain⟨q',hz',hr,_⟩:=hcase q z hz;show c.B<=(upd c.ρ n (c.ρ o) q).blk;rw[hr];exact hI1.low q' z hz'
theorem Xtt {c:Ctx} {H:Xz} {n o esz cap ety:Nat} {es':List AV} {new:Array Value} {w':World} (hI:Inv c H (·<n)) (hs:∀ o x,H o=some x->x.solo=true/\x.spent=false)
  (hsz:new.size=cap*esz) (hpos:0<esz) (hlen:es'.length<=cap)
  (hrel:∀ (i:Nat) e,es'[i]?=some e->e.cells.length=esz/\∀ (k:Nat) a,e.cells[k]?=some a->a.Ok (·<n)/\∃ v,new[i*esz+k]?=some v/\X0h c false a v/\v.oneCell'=true)
  (hw:w'.heap=c.w.heap.push (.cells new ety)) (h1:w'.os=c.w.os) (h2:w'.tape=c.w.tape) (h3:w'.output=c.w.output/\dr c.w<=dr w') :
  ∃ c',c'.ρ n=⟨c.w.heap.size,cap,esz,ety⟩/\Ends c H n w' c' (upd (upd H o none) n (some { es:=es',esz:=esz })):=by
 obtain⟨hle,hI1,hfr⟩:=hI.addBlock (id:=n) (Nat.lt_irrefl n) (x:={ es:=es',esz:=esz }) hw h1 h2 h3 hsz hpos rfl hlen hrel;have hcase:∀ q z,upd (upd H o none) n (some { es:=es',esz:=esz }) q=some z->upd H n (some { es:=es',esz:=esz }) q=some z:=by
  grind [Xi,Xk]
 have hsolo:∀ q z,upd (upd H o none) n (some { es:=es',esz:=esz }) q=some z->z.solo=true/\z.spent=false:=by
  grind [Xi,Xk]
 have hI2:Inv ⟨w',upd c.ρ n ⟨c.w.heap.size,cap,esz,ety⟩,c.Sa,c.So,c.B⟩ (upd (upd H o none) n (some { es:=es',esz:=esz })) (·<n+1):=by
  refine(hI1.more (M':=(·<n+1)) (λq hq=>by grind)).forget (λq z hz=>⟨z,hcase q z hz,rfl,rfl,λh=>h⟩) λq p z x hz hx hqp hb=>?_;have:=(hI1.sep q p z x (hcase q z hz) (hcase p x hx) hqp hb).1
  grind
 refine⟨_,Xi _ _ _,rfl,hle,rfl,λ_ h=>.inl h,hfr,λq z hz=>?_,hI2,hsolo⟩;have hz':=hcase q z hz;by_cases hq:q=n
 ·simp_all [Xi,Nat.le_refl]
 grind [Xk]
end Go.Av
