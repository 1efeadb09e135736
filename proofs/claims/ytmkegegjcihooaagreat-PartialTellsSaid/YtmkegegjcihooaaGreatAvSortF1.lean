/- slices.SortFunc at ints as a contract over the heap: a comparison by keys that tell apart what the list holds. -/
import Derived.Test.YtmkegegjcihooaaGreatAvSortI
set_option linter.all false

namespace Go.Av
variable [Gls]
open Go.Proofs Go.Shelf Go.RowKit Go.Lib Go.Sort Go.D
def X8f (key:Int->Int) (l:List Int):List Int:=l.mergeSort λa b=>decide (key a<=key b)
theorem X3f (key:Int->Int) (l:List Int):(X8f key l).length=l.length:=List.length_mergeSort ..
theorem Xqq {α:Type} [Inhabited α] {enc:α->Value} {w:World} {b off:Nat} {cur:Array Value} {ety:TypeId} (F:Array α) (h:w.heap[b]?=some (.cells cur ety (0,0))):(putRow enc w b off F).heap=(w.setRow b (putCells enc off F cur)).heap:=by
 unfold putRow mapBlock World.setRow;apply Array.ext_getElem?;intro i;simp only[Array.getElem?_modify];by_cases hi:b=i
 ·subst hi;simp[h,onCells]
 ·simp[hi]
set_option maxHeartbeats 2000000 in
theorem X02h {P:Program} {f g n o:Nat} {H:X0c} {ρ:Ren} (L:SlLaysF.n6 P ρ) (hf:ρ.f 6=f) {l:List Int} (key:Int->Int) (hne:l≠[]) (hdis:∀ x∈l,∀ y∈l,key x=key y->x=y) {caps bcaps:List AV} (hcv:Cvs false (upd H o none) caps bcaps)
  (hg:∀ x∈l,∀ y∈l,X05 P g ([aI .i64 x,aI .i64 y]++bcaps) (.sc (.int .i64 (cmI (key x) (key y))))) (ho:H o=some { es:=l.map (aI .i64),esz:=1 }) (hb:l.length<4611686018427387904) (hfn:∃ fn code,X1g P f fn code) (hgn:∃ fn code,X1g P g fn code) (hGdk:Gls.dk=1) :
  HC P f [.ref o 0 l.length,.fn g caps] H n (λr H' n'=>r=.tup []/\H'=upd H o (some { es:=(X8f key l).map (aI .i64),esz:=1 })/\n'=n):=by
 refine⟨hfn,λc vs hI hs hv hok=>?_⟩;obtain⟨v0,v1,hvs⟩:∃ v0 v1,vs=#[v0,v1]:=by
  have:=hv.len;obtain⟨l⟩:=vs;simp only[List.length_cons,List.length_nil,List.size_toArray] at this
  match l,this with
  |[a,b],_=>exact⟨a,b,rfl⟩
 subst hvs;have r0:=hv.rel 0 _ _ rfl rfl;have r1:=hv.rel 1 _ _ rfl rfl;obtain⟨e0,hle0⟩:=r0.ref_inv;obtain⟨cb,e1,hcl,hcr⟩:=r1.fn_inv;rw[Nat.zero_mul,Nat.sub_zero] at e0;subst e0 e1;obtain⟨hMo,⟨⟨cur,hcb,hcs,hcc⟩,hfits,hpos,hsame⟩,hoks⟩:=hI.obj o _ ho;simp only at hsame hfits hcc;rw[<-hsame] at hcs hcc hpos;rw[List.length_map] at hfits;have hblk:(c.ρ o).blk<c.w.heap.size:=(Array.getElem?_eq_some_iff.1 hcb).1;let α:Type:={ x:Int // x∈l }
 haveI:Inhabited α:=⟨⟨l.head hne,List.head_mem hne⟩⟩
 let enc:α->Value:=λx=>.int .i64 x.1
 let cf:α->α->Int:=λx y=>cmI (key x.1) (key y.1)
 have h1:OneCell enc:=λx=>rfl;have hlt:∀ x y:α,ltOf cf x y=decide (key x.1<key y.1):=by
  intro x y;show decide (cmI (key x.1) (key y.1)<0)=_;unfold cmI;by_cases p:key x.1<key y.1
  ·rw[if_pos p,decide_eq_true p];rfl
  ·rw[if_neg p,decide_eq_false p];split<;>rfl
 have hO:SWO (ltOf cf):=⟨λx=>by rw[hlt];exact decide_eq_false om,λx y z h1 h2=>by rw[hlt] at *;simp only[decide_eq_true_eq] at *;omega,λx y z h1 h2=>by rw[hlt] at *;simp only[decide_eq_false_iff_not] at *;omega⟩;have hT:∀ x y:α,ltOf cf x y=false->ltOf cf y x=false->x=y:=by
  intro x y h1 h2;rw[hlt] at h1 h2;simp only[decide_eq_false_iff_not] at h1 h2;exact Subtype.ext (hdis x.1 x.2 y.1 y.2 om)
 let d:Array α:=l.attach.toArray
 have hd:d.size=l.length:=by show l.attach.toArray.size=_;rw[List.size_toArray];exact List.length_attach
 have hcurv:∀ (i:Nat) z,l[i]?=some z->cur[i]?=some (.int .i64 z):=by
  intro i z hz;have hx:(l.map (aI .i64))[i]?=some (aI .i64 z):=by rw[List.getElem?_map,hz];rfl
  obtain⟨g1,g2⟩:=hcc i _ hx;obtain⟨u,hu,hr,_⟩:=g2 0 (aI .i64 z) rfl;have:=hr.sc_inv;subst this;simpa using hu
 have hH:Holds enc c.w (c.ρ o).blk 0 d:=by
  intro j hj;have hj':j<l.length:=by rw[<-hd];exact hj
  have hx2:d[j]! = ⟨l[j],List.getElem_mem hj'⟩:=by
   have ha:l.attach[j]?=some ⟨l[j],List.getElem_mem hj'⟩:=by
    rw[List.getElem?_eq_getElem (show j<l.attach.length by rw[List.length_attach];exact hj')];exact congrArg some (List.getElem_attach _)
   rw[Array.getElem!_eq_getD,Array.getD_eq_getD_getElem?];show(l.attach.toArray[j]?).getD default=_;rw[List.getElem?_toArray,ha];rfl
  refine⟨?_,?_⟩
  ·rw[cell_of_row c.w _ _ _ _ _ hcb,Nat.zero_add,hx2];exact hcurv j _ (List.getElem?_eq_getElem hj')
  ·unfold World.frozen?;simp only[hcb];simp
 have hst:=hI.stab o _ ho;have hsub:∀ q x,upd H o none q=some x->H q=some x/\q≠o:=by
  intro q x hq;by_cases he:q=o
  ·subst he;rw[Xm] at hq;cases hq
  ·rw[Xl _ _ he] at hq;exact⟨hq,he⟩
 have hsolo:∀ q q' x x',H q=some x->H q'=some x'->q≠q'->(c.ρ q).blk≠(c.ρ q').blk:=by
  intro q q' x x' h h' hne hb;have:=(hI.sep q q' x x' h h' hne hb).1;rw[(hs q x h).1] at this;cases this
 have hIr:Inv c (upd H o none) (·<n) :=
  hI.forget (λq x hx=>⟨x,(hsub q x hx).1,rfl,rfl,λh=>h⟩) (λq q' x x' hx hx' hne hb=>absurd hb (hsolo q q' x x' (hsub q x hx).1 (hsub q' x' hx').1 hne))
 have hblks:∀ q x,H q=some x->(c.ρ q).blk<c.w.heap.size:=by
  intro q x hx;obtain⟨_,⟨⟨cur,hcb,_⟩,_⟩,_⟩:=hI.obj q x hx;exact(Array.getElem?_eq_some_iff.1 hcb).1
 have hcmp:CmpLays1 P g cb enc cf (c.ρ o).blk 0 d.size c.w:=by
  intro m os dk hdk x y;have hWold:∀ b,b≠(c.ρ o).blk->b<c.w.heap.size->(sortWorld enc c.w (c.ρ o).blk 0 m dk os).heap[b]?=c.w.heap[b]?:=by
   intro b hb hlt;show((c.w.heap.modify (c.ρ o).blk _)++os)[b]?=_;rw[Array.getElem?_append_left (by simpa using hlt),Array.getElem?_modify,if_neg (λe=>hb e.symm)]
  have hWsz:c.w.heap.size<=(sortWorld enc c.w (c.ρ o).blk 0 m dk os).heap.size:=by
   show _<=((c.w.heap.modify (c.ρ o).blk _)++os).size;simp
  revert hWold hWsz;generalize sortWorld enc c.w (c.ρ o).blk 0 m dk os=W;intro hWold hWsz;obtain⟨hle,hIw⟩:=hIr.world (W:=W) hWsz (λb hb=>by
   rcases hb with hb|hb|⟨q,x,hx,rfl⟩
   ·exact hWold b (λe=>hst.1 (e▸hb)) (hI.lt b (.inl hb))
   ·exact hWold b (λe=>hst.2 (e▸hb)) (hI.lt b (.inr hb))
   ·obtain⟨g1,g2⟩:=hsub q x hx;exact hWold _ (hsolo q o x _ g1 ho g2) (hblks q x g1))
  have hokc:∀ a∈caps,a.Ok (·<n):=λa ha=>by have:=hok (.fn g caps) (by simp);cases this with|fn h=>exact h a ha
  have hlen:caps.length=cb.size:=hcl;have hp:=(hg x.1 x.2 y.1 y.2).2 W (λb=>c.Sa b\/c.So b\/∃ q x,upd H o none q=some x/\(c.ρ q).blk=b) (#[enc x,enc y]++cb) (by
    rintro b (hb|hb|⟨q,x,hx,rfl⟩)
    ·exact Nat.lt_of_lt_of_le (hI.lt b (.inl hb)) hWsz
    ·exact Nat.lt_of_lt_of_le (hI.lt b (.inr hb)) hWsz
    ·exact Nat.lt_of_lt_of_le (hblks q x (hsub q x hx).1) hWsz)
   (hIw.glob.of (λb hb=>.inl hb) λ_ _=>rfl)
   (by
    refine⟨by rw[List.length_append,Array.size_append,<-hcv.len,hlen];rfl,λi a v ha hvv=>?_⟩
    match i with
    |0 =>
     rw[Array.getElem?_append_left (by simp)] at hvv;simp at ha hvv;subst ha hvv;exact .sc
    |1 =>
     rw[Array.getElem?_append_left (by simp)] at hvv;simp at ha hvv;subst ha hvv;exact .sc
    |i+2 =>
     rw[List.getElem?_append_right (by simp)] at ha;rw[Array.getElem?_append_right (by simp)] at hvv;have ha:bcaps[i]?=some a:=by simpa using ha
     have hvv:cb[i]?=some v:=by simpa using hvv
     have hlt:i<caps.length:=by rw[hcv.len];exact(List.getElem?_eq_some_iff.1 ha).1
     have hac:=List.getElem?_eq_getElem hlt;exact X04b hIw (c':=⟨W,pl0,_,λ_=>False,W.heap.size⟩) rfl (λb hb=>.inl ⟨rfl,hb.elim .inl (λh=>.inr (.inl h))⟩) (λh=>by cases h) (λq x hx=>.inl ⟨rfl,.inr (.inr ⟨q,x,hx,rfl⟩)⟩)
      (hcv.rel i _ a hac ha) ((hcr i _ v hac hvv).mono hle (.inr (hokc _ (List.getElem_mem hlt)))))
  refine Calls.mono hp ?_;rintro e w' ⟨v,rfl,hvr,hbel⟩;have:=hvr.sc_inv;subst this;exact⟨rfl,hbel.grown hGdk⟩
 obtain⟨gfn,gcode,hgo⟩:=hgn;have eg:∀ args w,(callFunc g args).run P w=.ok (.enter g args) w:=by
  intro args w;simp only[callFunc,Sem.run_bind,run_program,Result.andThen_ok,hgo.here,hgo.name,hgo.body,Option.isNone_some,Bool.false_eq_true,if_false];rfl
 have hcall:=Any.slices_SortFunc_total L enc h1 cf hO g cb (c.ρ o).blk 0 (c.ρ o).cap d c.w eg hcmp hH hblk (by rw[hd];exact hb) hT;rw[hf,hd] at hcall;refine Calls.mono hcall λe w' ⟨he,m,os,hw⟩=>?_;let s:List α:=d.toList.mergeSort λx y=>!(ltOf cf) y x
 have hs1:s.map (·.1)=X8f key l:=by
  show(List.mergeSort d.toList _).map _=_;rw[List.map_mergeSort (s:=λa b=>decide (key a<=key b)) (by
   intro a _ b _;rw[hlt];by_cases p:key b.1<key a.1
   ·rw[decide_eq_true p,decide_eq_false om];rfl
   ·rw[decide_eq_false p,decide_eq_true om];rfl)]
  have:d.toList.map (·.1)=l:=by show(l.attach).map (·.1)=l;exact List.attach_map_subtype_val l
  rw[this];rfl
 have hslen:s.length=l.length:=by rw[<-X3f key l,<-hs1,List.length_map]
 have hnew:∀ (i:Nat) z,(X8f key l)[i]?=some z->(putCells enc 0 s.toArray cur)[i]?=some (.int .i64 z):=by
  intro i z hz;have hi:i<l.length:=by rw[<-X3f key l];exact(List.getElem?_eq_some_iff.1 hz).1
  have hic:i<cur.size:=by rw[hcs,Nat.mul_one];omega
  have hsi:i<s.length:=by rw[hslen];exact hi
  unfold putCells;rw[Array.getElem?_mapIdx,Array.getElem?_eq_getElem hic];simp only[Option.map_some,List.size_toArray,hslen,Nat.zero_add,Nat.zero_le,true_and,Nat.sub_zero];rw[if_pos hi];have hx2:s.toArray[i]! = s[i]:=by
   rw[Array.getElem!_eq_getD,Array.getD_eq_getD_getElem?];simp[hsi]
  rw[hx2];rw[<-hs1,List.getElem?_map,List.getElem?_eq_getElem hsi] at hz;have hz:(s[i]).1=z:=Option.some.inj hz;rw[<-hz]
 have w1h:=Xqq (enc:=enc) (w:=Go.Sort.ahead c.w m) (off:=0) s.toArray (show(Go.Sort.ahead c.w m).heap[(c.ρ o).blk]?=_ from hcb);obtain⟨q1,q2,q3,q4⟩:=Xlw (es':=(X8f key l).map (aI .i64)) (new:=putCells enc 0 s.toArray cur) hI ho (hs o _ ho).1 hcb (by unfold putCells;simp) (by rw[List.length_map,X3f];exact hfits) (by
   rw[<-hsame];intro i e he;rw[List.getElem?_map,Option.map_eq_some_iff] at he;obtain⟨z,hz,rfl⟩:=he;refine⟨rfl,λj a ha=>?_⟩
   cases j with
   |succ j=>have ha:([aI .i64 z]:List AV)[j+1]?=some a:=ha;simp at ha
   |zero =>
    have ha:some (aI .i64 z)=some a:=ha;cases ha
    exact⟨.sc,.int .i64 z,by simpa using hnew i z hz,.sc,rfl⟩)
 have hwh:w'.heap=(c.w.setRow (c.ρ o).blk (putCells enc 0 s.toArray cur)).heap++os:=by
  rw[hw];show(putRow enc (Go.Sort.ahead c.w m) (c.ρ o).blk 0 s.toArray).heap++os=_;rw[w1h];rfl
 obtain⟨g1,g2,g3⟩:=q2.wastes (w':=w') os hwh (by rw[hw];rfl) (by rw[hw];rfl) ⟨by rw[hw];rfl,by rw[hw];exact Xh9 (Nat.le_add_right _ _)⟩;have hold:∀ b,b<c.w.heap.size->w'.heap[b]?=(c.w.setRow (c.ρ o).blk (putCells enc 0 s.toArray cur)).heap[b]?:=λb hb=>by
  rw[hwh,Array.getElem?_append_left (Nat.lt_of_lt_of_le hb q3.size)]
 refine⟨_,_,_,_,{ c with w:=w' },⟨rfl,rfl,rfl⟩,he,rfl,⟨λ_ _=>rfl,λ_ h=>h,λ_ h=>h,λb hb=>?_,rfl⟩,rfl,λb hb=>.inl hb,⟨g3.os.trans q3.os,g3.tape.trans q3.tape,⟨g3.output.1.trans q3.output.1,Nat.le_trans q3.output.2 g3.output.2⟩,Nat.le_trans q3.size g3.size,λb hb hn=>?_⟩,q4,g2,?_,Nat.le_refl n,.tup (by simp) (λi a v ha=>by simp at ha),.tup (by simp)⟩
 ·show w'.heap[b]?=_;rw[hold b (hI.lt b hb)];exact q1.heap b hb
 ·rw[hold b hb];exact q3.block b hb hn
 ·intro q z hz;by_cases hq:q=o
  ·subst hq;rw[Xm] at hz;cases hz;exact⟨rfl,rfl⟩
  ·rw[Xl _ _ hq] at hz;exact hs q z hz
theorem Xo2 {P:Program} {f g n o:Nat} {H:X0c} {ρ:Ren} (L:SlLaysF0.n6 P ρ) (hf:ρ.f 6=f) {caps:List AV} (hfn:∃ fn code,X1g P f fn code) :
  HC P f [.ref o 0 0,.fn g caps] H n (λr H' n'=>r=.tup []/\H'=H/\n'=n):=by
 refine⟨hfn,λc vs hI hs hv hok=>?_⟩;obtain⟨v0,v1,hvs⟩:∃ v0 v1,vs=#[v0,v1]:=by
  have:=hv.len;obtain⟨l⟩:=vs;simp only[List.length_cons,List.length_nil,List.size_toArray] at this
  match l,this with
  |[a,b],_=>exact⟨a,b,rfl⟩
 subst hvs;have r0:=hv.rel 0 _ _ rfl rfl;obtain⟨e0,_⟩:=r0.ref_inv;subst e0;have hcall:=AnyF.slices_SortFunc_none L (some { block:=(c.ρ o).blk,off:=0*(c.ρ o).esz }) ((c.ρ o).cap - 0) v1 c.w;rw[hf] at hcall;refine Calls.mono hcall λe w' ⟨he,hw⟩=>?_;subst hw;exact⟨_,_,_,_,c,⟨rfl,rfl,rfl⟩,he,rfl,.refl c,rfl,λb hb=>.inl hb,.refl c H,λq x hx=>.inr ⟨q,x,hx,rfl⟩,hI,hs,Nat.le_refl n,.tup (by simp) (λi a v ha=>by simp at ha),.tup (by simp)⟩
theorem Xxb {P:Program} {f g n o ln:Nat} {G:List (Nat×Obj)} {ρ:Go.Shelf.Ren} (L:Go.Proofs.SlLaysF.n6 P ρ) (hf:ρ.f 6=f) {l:List Int} (key:Int->Int) (hne:l≠[]) (hdis:∀ x∈l,∀ y∈l,key x=key y->x=y) {caps bcaps:List AV} (hcv:Cvs false (upd (hp G) o none) caps bcaps)
  (hg:∀ x∈l,∀ y∈l,X05 P g ([aI .i64 x,aI .i64 y]++bcaps) (.sc (.int .i64 (cmI (key x) (key y))))) (ho:hp G o=some { es:=l.map (aI .i64),esz:=1 }) (hln:ln=l.length) (hb:l.length<4611686018427387904) (hfn:∃ fn code,X1g P f fn code) (hgn:∃ fn code,X1g P g fn code) (hGdk:Gls.dk=1:=by rfl) :
  Xw9 P f [.ref o 0 ln,.fn g caps] G n (.tup []) ((o,{ es:=(X8f key l).map (aI .i64),esz:=1 })::G) n:=by
 subst hln;refine⟨(X02h (n:=n) L hf key hne hdis hcv hg ho hb hfn hgn hGdk).mono λr H' n' ⟨g1,g2,g3⟩=>⟨g1,?_,g3⟩⟩;rw[g2,Xfn (hx:=rfl)]
theorem Xm1 {α β:Type} {f:α->β}:∀ {l:List α},(l.map f).Nodup->∀ x∈l,∀ y∈l,f x=f y->x=y
 |[],_,x,hx,_,_,_=>by cases hx
 |a::l,h,x,hx,y,hy,he=>by
  rw[List.map_cons,List.nodup_cons] at h;rcases List.mem_cons.1 hx with rfl|hx<;>rcases List.mem_cons.1 hy with rfl|hy
  ·rfl
  ·exact absurd (List.mem_map.2 ⟨y,hy,he.symm⟩) h.1
  ·exact absurd (by rw[<-he];exact List.mem_map.2 ⟨x,by assumption,rfl⟩) h.1
  ·exact Xm1 h.2 x hx y hy he
end Go.Av
namespace Go.D
def X4l {α:Type} (p:α->Bool):List α->Nat->List Int
 |[],_=>[]
 |x::xs,k=>bif p x then (k:Int)::X4l p xs (k+1) else X4l p xs (k+1)
theorem Xmg {α:Type} (p:α->Bool):∀ (l:List α) (k:Nat),(X4l p l k).length<=l.length
 |[],_=>Nat.le_refl _
 |x::xs,k=>by
  have:=Xmg p xs (k+1);rw[X4l]
  cases p x with
  |true=>simp only[cond_true,List.length_cons];omega
  |false=>simp only[cond_false,List.length_cons];omega
theorem Xmf {α:Type} (p:α->Bool):∀ (l:List α) (k:Nat) (z:Int),z∈X4l p l k->∃ i:Nat,z=(i:Int)/\k<=i/\i<k+l.length
 |[],_,_,h=>by cases h
 |x::xs,k,z,h=>by
  rw[X4l] at h;have key:z∈X4l p xs (k+1)->∃ i:Nat,z=(i:Int)/\k<=i/\i<k+(x::xs).length:=λh=>by
   obtain⟨i,h1,h2,h3⟩:=Xmf p xs (k+1) z h;exact⟨i,h1,by omega,by simp only[List.length_cons];omega⟩
  cases hp:p x with
  |true =>
   rw[hp,cond_true] at h;rcases List.mem_cons.1 h with rfl|h
   ·exact⟨k,rfl,Nat.le_refl _,by simp only[List.length_cons];omega⟩
   ·exact key h
  |false=>rw[hp,cond_false] at h;exact key h
end Go.D
