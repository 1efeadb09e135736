/- slices.SortFunc as a contract over the heap. -/
import Derived.Test.YtnkfdamiiejfdaaGreatDoorLowK
import Derived.Shelf.SlSortCmp.NoneTotal
set_option linter.all false
set_option maxHeartbeats 4000000

namespace Go.Av
variable [Gls]
open Go.Proofs Go.Shelf Go.RowKit Go.Lib Go.Sort Go.D
class CmpOk {α:Type} (c:α->α->Option Int):Prop where
 tot:∀ x y,∃ r,c x y=some r
 swo:SWO (ltOf λx y=>(c x y).getD 0)
 dif:∀ x y,ltOf (λx y=>(c x y).getD 0) x y=false->ltOf (λx y=>(c x y).getD 0) y x=false->x=y
theorem Xuf.grown {w w':World} (hGdk:Gls.dk=1) (h:Xuf w.heap.size w w'):∃ q os,w'=grow (w.drewN q) os:=by
 refine⟨w'.drawn - w.drawn,w'.heap.extract w.heap.size w'.heap.size,?_⟩;have hh:w'.heap=w.heap++w'.heap.extract w.heap.size w'.heap.size:=by
  apply Array.ext_getElem?;intro i;have hsz:=h.size;by_cases hi:i<w.heap.size
  ·rw[Array.getElem?_append_left hi];exact h.block i hi
  ·rw[Array.getElem?_append_right om,Array.getElem?_extract];split
   ·congr 1;omega
   ·rw[Array.getElem?_eq_none om]
 have hd:w'.drawn=w.drawn+(w'.drawn - w.drawn):=by have:=h.drawn;unfold dr at this;rw[hGdk] at this;omega
 obtain⟨⟨h1,h2,h3,_,_⟩,_⟩:=h;cases w'
 simp only[grow,World.drewN] at *;subst h1 h2 h3;congr 1
section
variable {c:Ctx} {H:Xw} {M:Nat->Prop}
theorem Inv.wastes (hI:Inv c H M) {w':World} (os:Array Go.Obj) (hw:w'.heap=c.w.heap++os) (hos:w'.os=c.w.os) (htape:w'.tape=c.w.tape) (hout:w'.output=c.w.output/\dr c.w<=dr w') :
  c.Le M { c with w:=w' }/\Inv { c with w:=w' } H M/\Fr c H w':=by
 have hold:∀ b,b<c.w.heap.size->w'.heap[b]?=c.w.heap[b]?:=by
  intro b hb;rw[hw,Array.getElem?_append_left hb]
 have hsz:c.w.heap.size<=w'.heap.size:=by rw[hw];simp
 have hle:c.Le M { c with w:=w' }:=⟨λ_ _=>rfl,λ_ h=>h,λ_ h=>h,λb hb=>hold b (hI.lt b hb),rfl⟩;refine⟨hle,⟨?_,hI.sep,hI.stab,λb hb=>Nat.lt_of_lt_of_le (hI.lt b hb) hsz,Nat.le_trans hI.base hsz,hI.own,hI.low,hI.glob.mono hle⟩,⟨hos,htape,hout,hsz,λb hb _=>hold b hb⟩⟩;intro p x hx;obtain⟨h1,⟨⟨cur,hb,hs,hc⟩,h3,h4,h5⟩,h6⟩:=hI.obj p x hx;refine⟨h1,⟨⟨cur,?_,hs,?_⟩,h3,h4,h5⟩,h6⟩
 ·rw[hold _ (Array.getElem?_eq_some_iff.1 hb).1];exact hb
 ·intro i e he;obtain⟨g1,g2⟩:=hc i e he;exact⟨g1,λk a ha=>by obtain⟨v,hv,hr,h7⟩:=g2 k a ha;exact⟨v,hv,hr.mono hle (.inr (h6 e (List.mem_of_getElem? he) a (List.mem_of_getElem? ha))),h7⟩⟩
end
def scV:AV->Value
 |.sc v=>v
 |_=>undef
def Xg2 {α:Type} (enc:α->AV) (x:α):List Value:=(enc x).cells.map scV
theorem Xnq {α:Type} {enc:α->AV} [i:X9n enc] (x:α) {k:Nat} {a:AV} (h:(enc x).cells[k]?=some a):∃ v,a=.sc v/\(Xg2 enc x)[k]?=some v:=by
 obtain⟨v,rfl⟩:=i.flat x a (List.mem_of_getElem? h);exact⟨v,rfl,by simp[Xg2,h,scV]⟩
theorem Xsz {α:Type} {enc:α->AV} [i:X9n enc] (hagg:∀ x,enc x=.agg (enc x).cells) (h1:∀ x,∀ v∈Xg2 enc x,v.oneCell'=true) (c:Ctx) (d:Bool) (x:α):X0b c d (enc x) (.agg (Xg2 enc x).toArray):=by
 rw[hagg x];refine .agg (by simp[Xg2]) (λv hv=>h1 x v (by simpa using hv)) λk a v ha hv=>?_;obtain⟨u,rfl,hu⟩:=Xnq x ha;rw[List.getElem?_toArray,hu] at hv;cases hv
 exact .sc
theorem Xqq {w:World} {b off:Nat} {cur:Array Value} {ety:TypeId} (F:Array Value) (h:w.heap[b]?=some (.cells cur ety (0,0))):(putRow id w b off F).heap=(w.setRow b (putCells id off F cur)).heap:=by
 unfold putRow mapBlock World.setRow;apply Array.ext_getElem?;intro i;simp only[Array.getElem?_modify];by_cases hi:b=i
 ·subst hi;simp[h,onCells]
 ·simp[hi]
theorem Inv.world {c:Ctx} {H:Xw} {M:Nat->Prop} (hI:Inv c H M) {W:World} (hsz:c.w.heap.size<=W.heap.size) (hold:∀ b,(c.Sa b\/c.So b\/∃ q x,H q=some x/\(c.ρ q).blk=b)->W.heap[b]?=c.w.heap[b]?) :
  c.Le M { c with w:=W }/\Inv { c with w:=W } H M:=by
 have hle:c.Le M { c with w:=W }:=⟨λ_ _=>rfl,λ_ h=>h,λ_ h=>h,λb hb=>hold b (hb.imp id .inl),rfl⟩;refine⟨hle,⟨λp x hx=>?_,hI.sep,hI.stab,λb hb=>Nat.lt_of_lt_of_le (hI.lt b hb) hsz,Nat.le_trans hI.base hsz,hI.own,hI.low,hI.glob.mono hle⟩⟩;obtain⟨h1,⟨⟨cur,hb,hs,hc⟩,h3,h4,h5⟩,h6⟩:=hI.obj p x hx;refine⟨h1,⟨⟨cur,?_,hs,?_⟩,h3,h4,h5⟩,h6⟩
 ·show W.heap[(c.ρ p).blk]?=_;rw[hold _ (.inr (.inr ⟨p,x,hx,rfl⟩))];exact hb
 ·intro i e he;obtain⟨g1,g2⟩:=hc i e he;exact⟨g1,λk a ha=>by obtain⟨v,hv,hr,h7⟩:=g2 k a ha;exact⟨v,hv,hr.mono hle (.inr (h6 e (List.mem_of_getElem? he) a (List.mem_of_getElem? ha))),h7⟩⟩
theorem X0a2 {α:Type} {enc:α->AV} [fi:X9n enc] (hagg:∀ x,enc x=.agg (enc x).cells) (h1:∀ x,∀ v∈Xg2 enc x,v.oneCell'=true) {c':Ctx} {cb:Array Value} {bcaps:List AV} (hcl:bcaps.length=cb.size)
  (hcr:∀ (i:Nat) a v,bcaps[i]?=some a->cb[i]?=some v->X0b c' true a v) (x y:α):Xaj c' true ([enc x,enc y]++bcaps) (#[.agg (Xg2 enc x).toArray,.agg (Xg2 enc y).toArray]++cb):=by
 refine⟨by rw[List.length_append,Array.size_append,hcl];rfl,λi a v ha hvv=>?_⟩
 match i with
 |0 =>
  rw[Array.getElem?_append_left (by simp)] at hvv;simp at ha hvv;subst ha hvv;exact Xsz hagg h1 _ _ _
 |1 =>
  rw[Array.getElem?_append_left (by simp)] at hvv;simp at ha hvv;subst ha hvv;exact Xsz hagg h1 _ _ _
 |i+2 =>
  rw[List.getElem?_append_right (by simp)] at ha;rw[Array.getElem?_append_right (by simp)] at hvv;exact hcr i a v ha hvv
theorem X04z (hGdk:Gls.dk=1) {P:Program} {g k off size n o:Nat} {c:Ctx} {H:Xw} {y0:Obj} {α:Type} [Inhabited α] {enc:α->AV} [fi:X9n enc] (hI:Inv c H (·<n)) (hs:∀ o x,H o=some x->x.solo=true/\x.spent=false) (ho:H o=some y0)
  (hagg:∀ x,enc x=.agg (enc x).cells) (h1:∀ x,∀ v∈Xg2 enc x,v.oneCell'=true) (cm:α->α->Option Int) [cmo:CmpOk cm] {caps bcaps:List AV} (hcv:Cvs false (upd H o none) caps bcaps)
  (hg:∀ x y r,cm x y=some r->X15 P g ([enc x,enc y]++bcaps) (.sc (.int .i64 r))) {cb:Array Value} (hcl:caps.length=cb.size) (hcr:∀ (i:Nat) a v,caps[i]?=some a->cb[i]?=some v->X0b c false a v) (hok:∀ a∈caps,a.Ok (·<n)) :
  CmpLays P g cb (Xg2 enc) k (λx y=>(cm x y).getD 0) (c.ρ o).blk off size c.w:=by
 intro m os dk hdk x y;have hWold:∀ b,b≠(c.ρ o).blk->b<c.w.heap.size->(sortWorldK (Xg2 enc) k c.w (c.ρ o).blk off m dk os).heap[b]?=c.w.heap[b]?:=by
  intro b hb hlt;show((c.w.heap.modify (c.ρ o).blk _)++os)[b]?=_;rw[Array.getElem?_append_left (by simpa using hlt),Array.getElem?_modify,if_neg (λe=>hb e.symm)]
 have hWsz:c.w.heap.size<=(sortWorldK (Xg2 enc) k c.w (c.ρ o).blk off m dk os).heap.size:=by
  show _<=((c.w.heap.modify (c.ρ o).blk _)++os).size;simp
 revert hWold hWsz;generalize sortWorldK (Xg2 enc) k c.w (c.ρ o).blk off m dk os=W;intro hWold hWsz;have hsub:∀ q x,upd H o none q=some x->H q=some x/\q≠o:=by
  intro q x hq;by_cases he:q=o
  ·subst he;rw[Xc] at hq;cases hq
  ·rw[Xe _ _ he] at hq;exact⟨hq,he⟩
 have hsolo:∀ q q' x x',H q=some x->H q'=some x'->q≠q'->(c.ρ q).blk≠(c.ρ q').blk:=by
  intro q q' x x' h h' hne hb;have:=(hI.sep q q' x x' h h' hne hb).1;rw[(hs q x h).1] at this;cases this
 have hIr:Inv c (upd H o none) (·<n) :=
  hI.forget (λq x hx=>⟨x,(hsub q x hx).1,rfl,rfl,λh=>h⟩) (λq q' x x' hx hx' hne hb=>absurd hb (hsolo q q' x x' (hsub q x hx).1 (hsub q' x' hx').1 hne))
 have hblk:∀ q x,H q=some x->(c.ρ q).blk<c.w.heap.size:=by
  intro q x hx;obtain⟨_,⟨⟨cur,hcb,_⟩,_⟩,_⟩:=hI.obj q x hx;exact(Array.getElem?_eq_some_iff.1 hcb).1
 have hst:=hI.stab o y0 ho;obtain⟨hle,hIw⟩:=hIr.world (W:=W) hWsz (λb hb=>by
  rcases hb with hb|hb|⟨q,x,hx,rfl⟩
  ·exact hWold b (λe=>hst.1 (e▸hb)) (hI.lt b (.inl hb))
  ·exact hWold b (λe=>hst.2 (e▸hb)) (hI.lt b (.inr hb))
  ·obtain⟨g1,g2⟩:=hsub q x hx;exact hWold _ (hsolo q o x y0 g1 ho g2) (hblk q x g1))
 obtain⟨r,hr⟩:=cmo.tot x y;have hp:=(hg x y r hr).2 W (λb=>c.Sa b\/c.So b\/∃ q x,upd H o none q=some x/\(c.ρ q).blk=b) _ (by
   rintro b (hb|hb|⟨q,x,hx,rfl⟩)
   ·exact Nat.lt_of_lt_of_le (hI.lt b (.inl hb)) hWsz
   ·exact Nat.lt_of_lt_of_le (hI.lt b (.inr hb)) hWsz
   ·exact Nat.lt_of_lt_of_le (hblk q x (hsub q x hx).1) hWsz)
  (hIw.glob.of (λb hb=>.inl hb) λ_ _=>rfl)
  (X0a2 hagg h1 (by rw[<-hcv.len];exact hcl) (λi b v hb hv=>by
   have hlt:i<caps.length:=by rw[hcv.len];exact(List.getElem?_eq_some_iff.1 hb).1
   have ha:=List.getElem?_eq_getElem hlt;exact Xwu hIw (c':=⟨W,pl0,_,λ_=>False,W.heap.size⟩) rfl (λb hb=>.inl ⟨rfl,hb.elim .inl (λh=>.inr (.inl h))⟩) (λh=>by cases h) (λq x hx=>.inl ⟨rfl,.inr (.inr ⟨q,x,hx,rfl⟩)⟩)
    (hcv.rel i _ b ha hb) ((hcr i _ v ha hv).mono hle (.inr (hok _ (List.getElem_mem hlt))))) x y)
 refine Calls.mono hp ?_;rintro e w' ⟨v,rfl,hvr,hbel⟩;have:=hvr.sc_inv;subst this;refine⟨?_,hbel.grown hGdk⟩;simp only[hr];rfl
set_option maxHeartbeats 2000000 in
theorem X06v {P:Program} {f g n o k:Nat} {H:Xw} {α:Type} [Inhabited α] {enc:α->AV} [fi:X9n enc] (hagg:∀ x,enc x=.agg (enc x).cells) (hk:∀ x,(enc x).cells.length=k) (h1:∀ x,∀ v∈Xg2 enc x,v.oneCell'=true)
  {ρ:Ren} (L:SlLaysF0.n6 P ρ) (hf:ρ.f 6=f) (aE:∀ w,(isAgg (ρ.t 24)).run P w=.ok true w) (zE:∀ w,(Go.sizeOf (ρ.t 24)).run P w=.ok k w) (cm:α->α->Option Int) [cmo:CmpOk cm] {caps bcaps:List AV} (hcv:Cvs false (upd H o none) caps bcaps)
  (hg:∀ x y r,cm x y=some r->X15 P g ([enc x,enc y]++bcaps) (.sc (.int .i64 r))) {l:List α} (ho:H o=some { es:=l.map enc,esz:=k }) (hb:l.length<4611686018427387904) (hfn:∃ fn code,Xc9 P f fn code) (hgn:∃ fn code,Xc9 P g fn code) (hGdk:Gls.dk=1) :
  HC P f [.ref o 0 l.length,.fn g caps] H n (λr H' n'=>r=.tup []/\H'=upd H o (some { es:=(X6b cm l).map enc,esz:=k })/\n'=n):=by
 refine⟨hfn,λc vs hI hs hv hok=>?_⟩;obtain⟨v0,v1,hvs⟩:∃ v0 v1,vs=#[v0,v1]:=by
  have:=hv.len;obtain⟨l⟩:=vs;simp only[List.length_cons,List.length_nil,List.size_toArray] at this
  match l,this with
  |[a,b],_=>exact⟨a,b,rfl⟩
 subst hvs;have r0:=hv.rel 0 _ _ rfl rfl;have r1:=hv.rel 1 _ _ rfl rfl;obtain⟨e0,hle0⟩:=r0.ref_inv;obtain⟨cb,e1,hcl,hcr⟩:=r1.fn_inv;rw[Nat.zero_mul,Nat.sub_zero] at e0;subst e0 e1;obtain⟨hMo,⟨⟨cur,hcb,hcs,hcc⟩,hfits,hpos,hsame⟩,hoks⟩:=hI.obj o _ ho;simp only at hsame hfits hcc;rw[<-hsame] at hcs hcc hpos;rw[List.length_map] at hfits;have hblk:(c.ρ o).blk<c.w.heap.size:=(Array.getElem?_eq_some_iff.1 hcb).1;have hkV:∀ x,(Xg2 enc x).length=k:=λx=>by simp[Xg2,hk]
 have hcurv:∀ (i j:Nat),i<l.length->j<k->∃ x v,l[i]?=some x/\(Xg2 enc x)[j]?=some v/\cur[i*k+j]?=some v:=by
  intro i j hi hj;have hx:(l.map enc)[i]?=some (enc l[i]):=by simp[hi]
  obtain⟨g1,g2⟩:=hcc i _ hx;have hj':j<(enc l[i]).cells.length:=by rw[hk];exact hj
  obtain⟨u,hu,hr,hu1⟩:=g2 j _ (List.getElem?_eq_getElem hj');obtain⟨v,hav,hev⟩:=Xnq l[i] (List.getElem?_eq_getElem hj');rw[hav] at hr;have:=hr.sc_inv;subst this;exact⟨l[i],u,by simp,hev,hu⟩
 have hH:HoldsK (Xg2 enc) k c.w (c.ρ o).blk 0 l.toArray:=by
  intro j hj;rw[size_flatK] at hj;rw[get_flatK _ _ _ _ hj];have hk0:0<k:=hpos;have hi:j / k<l.length:=by
   have:j<l.length*k:=by simpa using hj
   exact Nat.div_lt_of_lt_mul (by rw[Nat.mul_comm];exact this)
  obtain⟨x,v,hx,he,hc⟩:=hcurv (j / k) (j % k) hi (Nat.mod_lt _ hk0);have hjj:j / k*k+j % k=j:=by rw[Nat.mul_comm];exact Nat.div_add_mod j k
  rw[hjj] at hc;have hx2:l.toArray[j / k]! = x:=by
   rw[Array.getElem!_eq_getD,Array.getD_eq_getD_getElem?];simp[hx]
  refine⟨?_,?_⟩
  ·rw[cell_of_row c.w _ _ _ _ _ hcb,Nat.zero_add,hx2,hc];simp[List.getElem!_eq_getElem?_getD,he]
  ·unfold World.frozen?;simp only[hcb];simp
 have hcmp:CmpLays P g cb (Xg2 enc) k (λx y=>(cm x y).getD 0) (c.ρ o).blk 0 l.toArray.size c.w:=X04z hGdk hI hs ho hagg h1 cm hcv hg hcl hcr (λa ha=>by have:=hok (.fn g caps) (by simp);cases this with|fn h=>exact h a ha);obtain⟨gfn,gcode,hgo⟩:=hgn;have eg:∀ args w,(callFunc g args).run P w=.ok (.enter g args) w:=by
  intro args w;simp only[callFunc,Sem.run_bind,run_program,Result.andThen_ok,hgo.here,hgo.name,hgo.body,Option.isNone_some,Bool.false_eq_true,if_false];rfl
 have hcall:=AnyQ.slices_SortFunc_total L k aE zE (Xg2 enc) hkV h1 (λx y=>(cm x y).getD 0) cmo.swo g cb (c.ρ o).blk 0 (c.ρ o).cap l.toArray c.w eg hcmp hH hblk (by simpa using hb) cmo.dif;rw[hf] at hcall;have hsz:l.toArray.size=l.length:=by simp
 rw[hsz] at hcall;refine Calls.mono hcall λe w' ⟨he,m,os,hw⟩=>?_;have hperm:(l.toArray.toList.mergeSort λx y=>!(ltOf (λx y=>(cm x y).getD 0) y x))=X6b cm l:=rfl;rw[hperm] at hw;have hlen:(X6b cm l).length=l.length:=List.length_mergeSort ..;have hnew:∀ (i j:Nat) x,(X6b cm l)[i]?=some x->j<k->(putCells id 0 (flatK (Xg2 enc) k (X6b cm l).toArray) cur)[i*k+j]?=(Xg2 enc x)[j]?:=by
  intro i j x hx hj;have hi:i<l.length:=by rw[<-hlen];exact(List.getElem?_eq_some_iff.1 hx).1
  have hik:i*k+j<l.length*k:=by
   have:=Nat.mul_le_mul_right k (show i+1<=l.length from hi);rw[Nat.add_mul,Nat.one_mul] at this;omega
  have hic:i*k+j<cur.size:=by
   rw[hcs];exact Nat.lt_of_lt_of_le hik (Nat.mul_le_mul_right _ hfits)
  have hk0:0<k:=hpos;have hdiv:(i*k+j) / k=i:=by rw[Nat.mul_comm,Nat.mul_add_div hk0,Nat.div_eq_of_lt hj,Nat.add_zero]
  have hmod:(i*k+j) % k=j:=by rw[Nat.mul_comm,Nat.mul_add_mod,Nat.mod_eq_of_lt hj]
  unfold putCells;rw[Array.getElem?_mapIdx,Array.getElem?_eq_getElem hic];simp only[Option.map_some,size_flatK,List.size_toArray,hlen,Nat.zero_add,Nat.zero_le,true_and,Nat.sub_zero];rw[if_pos hik,get_flatK _ _ _ _ (by simpa[hlen] using hik),hdiv,hmod];have hx2:(X6b cm l).toArray[i]! = x:=by
   rw[Array.getElem!_eq_getD,Array.getD_eq_getD_getElem?];simp[hx]
  rw[hx2,List.getElem!_eq_getElem?_getD];have hjl:j<(Xg2 enc x).length:=by rw[hkV];exact hj
  rw[List.getElem?_eq_getElem hjl];rfl
 have w1h:=Xqq (w:=Go.Sort.ahead c.w m) (off:=0) (flatK (Xg2 enc) k (X6b cm l).toArray) (show(Go.Sort.ahead c.w m).heap[(c.ρ o).blk]?=_ from hcb);obtain⟨q1,q2,q3,q4⟩:=Xff (es':=(X6b cm l).map enc) (new:=putCells id 0 (flatK (Xg2 enc) k (X6b cm l).toArray) cur) hI ho (hs o _ ho).1 hcb (by unfold putCells;simp) (by rw[List.length_map,hlen];exact hfits) (by
   rw[<-hsame];intro i e he;rw[List.getElem?_map,Option.map_eq_some_iff] at he;obtain⟨x,hx,rfl⟩:=he;refine⟨hk x,λj a ha=>?_⟩;have hj:j<k:=by rw[<-hk x];exact(List.getElem?_eq_some_iff.1 ha).1
   obtain⟨v,rfl,hev⟩:=Xnq x ha;exact⟨.sc,v,by rw[hnew i j x hx hj,hev],.sc,h1 x v (List.mem_of_getElem? hev)⟩)
 have hwh:w'.heap=(c.w.setRow (c.ρ o).blk (putCells id 0 (flatK (Xg2 enc) k (X6b cm l).toArray) cur)).heap++os:=by
  rw[hw];show(putRowK (Xg2 enc) k (Go.Sort.ahead c.w m) (c.ρ o).blk 0 (X6b cm l).toArray).heap++os=_;unfold putRowK;rw[w1h];rfl
 obtain⟨g1,g2,g3⟩:=q2.wastes (w':=w') os hwh (by rw[hw];rfl) (by rw[hw];rfl) ⟨by rw[hw];rfl,by rw[hw];exact X9k (Nat.le_add_right _ _)⟩;have hold:∀ b,b<c.w.heap.size->w'.heap[b]?=(c.w.setRow (c.ρ o).blk (putCells id 0 (flatK (Xg2 enc) k (X6b cm l).toArray) cur)).heap[b]?:=λb hb=>by
  rw[hwh,Array.getElem?_append_left (Nat.lt_of_lt_of_le hb q3.size)]
 refine⟨_,_,_,_,{ c with w:=w' },⟨rfl,rfl,rfl⟩,he,rfl,⟨λ_ _=>rfl,λ_ h=>h,λ_ h=>h,λb hb=>?_,rfl⟩,rfl,λb hb=>.inl hb,⟨g3.os.trans q3.os,g3.tape.trans q3.tape,⟨g3.output.1.trans q3.output.1,Nat.le_trans q3.output.2 g3.output.2⟩,Nat.le_trans q3.size g3.size,λb hb hn=>?_⟩,q4,g2,?_,Nat.le_refl n,.tup (by simp) (λi a v ha=>by simp at ha),.tup (by simp)⟩
 ·show w'.heap[b]?=_;rw[hold b (hI.lt b hb)];exact q1.heap b hb
 ·rw[hold b hb];exact q3.block b hb hn
 ·intro q z hz;by_cases hq:q=o
  ·subst hq;rw[Xc] at hz;cases hz;exact⟨rfl,rfl⟩
  ·rw[Xe _ _ hq] at hz;exact hs q z hz
theorem Xt3 {P:Program} {f g n cap:Nat} {H:Xw} {ρ:Ren} (L:SlLaysF0.n6 P ρ) (hf:ρ.f 6=f) {caps:List AV} (hfn:∃ fn code,Xc9 P f fn code) :
  HC P f [.nils,.fn g caps] H n (λr H' n'=>r=.tup []/\H'=H/\n'=n):=by
 refine⟨hfn,λc vs hI hs hv hok=>?_⟩;obtain⟨v0,v1,hvs⟩:∃ v0 v1,vs=#[v0,v1]:=by
  have:=hv.len;obtain⟨l⟩:=vs;simp only[List.length_cons,List.length_nil,List.size_toArray] at this
  match l,this with
  |[a,b],_=>exact⟨a,b,rfl⟩
 subst hvs;have r0:=hv.rel 0 _ _ rfl rfl;obtain⟨p,e0⟩:=r0.nils_inv;subst e0;have hcall:=AnyF.slices_SortFunc_none L p 0 v1 c.w;rw[hf] at hcall;refine Calls.mono hcall λe w' ⟨he,hw⟩=>?_;subst hw;exact⟨_,_,_,_,c,⟨rfl,rfl,rfl⟩,he,rfl,.refl c,rfl,λb hb=>.inl hb,.refl c H,λq x hx=>.inr ⟨q,x,hx,rfl⟩,hI,hs,Nat.le_refl n,.tup (by simp) (λi a v ha=>by simp at ha),.tup (by simp)⟩
theorem X05u {l:List Value} (h:l.all (·.oneCell')=true):∀ v∈l,v.oneCell'=true:=by simpa using h
theorem X05i {P:Program} {f g n o k ln:Nat} {G:List (Nat×Obj)} {α:Type} [Inhabited α] {enc:α->AV} [fi:X9n enc] (hagg:∀ x,enc x=.agg (enc x).cells) (hk:∀ x,(enc x).cells.length=k) (h1:∀ x,∀ v∈Xg2 enc x,v.oneCell'=true)
  {ρ:Ren} (L:SlLaysF0.n6 P ρ) (hf:ρ.f 6=f) (aE:∀ w,(isAgg (ρ.t 24)).run P w=.ok true w) (zE:∀ w,(Go.sizeOf (ρ.t 24)).run P w=.ok k w) (cm:α->α->Option Int) [cmo:CmpOk cm] {caps bcaps:List AV} (hcv:Cvs false (upd (hp G) o none) caps bcaps)
  (hg:∀ x y r,cm x y=some r->X15 P g ([enc x,enc y]++bcaps) (.sc (.int .i64 r))) {l m:List α} (h:Xmj cm l=some m) (ho:hp G o=some { es:=l.map enc,esz:=k }) (hln:ln=l.length) (hfn:∃ fn code,Xc9 P f fn code) (hgn:∃ fn code,Xc9 P g fn code) (hGdk:Gls.dk=1:=by rfl) :
  HC P f [.ref o 0 ln,.fn g caps] (hp G) n (λr2 H2 n2=>r2=.tup []/\H2=hp ((o,{ es:=m.map enc,esz:=k })::G)/\n2=n):=by
 obtain⟨hb,rfl⟩:=Xmi h;subst hln;refine(X06v (n:=n) hagg hk h1 L hf aE zE cm hcv hg ho om hfn hgn hGdk).mono λr H' n' ⟨g1,g2,g3⟩=>⟨g1,?_,g3⟩;rw[g2,Xbn (hx:=rfl)]
end Go.Av
namespace Go.D
def Xde:List Int->List Int->Int
 |a::r,b::s=>if a<b then -1 else if a>b then 1 else Xde r s
 |_,_=>0
theorem Xoy:∀ a:List Int,Xde a a=0
 |[]=>rfl
 |a::r=>by rw[Xde,if_neg om,if_neg om];exact Xoy r
theorem Xdd:∀ a b c:List Int,a.length=b.length->b.length=c.length->Xde a b<0->Xde b c<0->Xde a c<0
 |[],[],_,_,_,h,_=>absurd h (by simp[Xde])
 |a::r,b::s,c::t,h1,h2,h3,h4=>by
  simp only[List.length_cons,Nat.add_right_cancel_iff] at h1 h2;simp only[Xde] at h3 h4 ⊢;by_cases p:a<b
  ·by_cases q:b<c
   ·rw[if_pos om];omega
   ·rw[if_neg q] at h4;by_cases q2:b>c
    ·rw[if_pos q2] at h4;omega
    ·rw[if_pos om];omega
  ·rw[if_neg p] at h3;by_cases p2:a>b
   ·rw[if_pos p2] at h3;omega
   ·rw[if_neg p2] at h3;by_cases q:b<c
    ·rw[if_pos om];omega
    ·rw[if_neg q] at h4;by_cases q2:b>c
     ·rw[if_pos q2] at h4;omega
     ·rw[if_neg q2] at h4;rw[if_neg om,if_neg om];exact Xdd r s t h1 h2 h3 h4
theorem Xfl:∀ a b:List Int,a.length=b.length->¬ Xde a b<0->¬ Xde b a<0->a=b
 |[],[],_,_,_=>rfl
 |a::r,b::s,h,h1,h2=>by
  simp only[List.length_cons,Nat.add_right_cancel_iff] at h;simp only[Xde] at h1 h2;by_cases p:a<b
  ·rw[if_pos p] at h1;omega
  ·by_cases q:b<a
   ·rw[if_pos q] at h2;omega
   ·rw[if_neg p,if_neg om] at h1;rw[if_neg q,if_neg om] at h2;rw[Xfl r s h h1 h2,show a=b by omega]
theorem Xoz:∀ a b:List Int,Xde a b<0->¬ Xde b a<0
 |[],_,h=>absurd h (by simp[Xde])
 |_::_,[],h=>absurd h (by simp[Xde])
 |a::r,b::s,h=>by
  simp only[Xde] at h ⊢;by_cases p:a<b
  ·rw[if_neg om,if_pos om];omega
  ·rw[if_neg p] at h;by_cases q:a>b
   ·rw[if_pos q] at h;omega
   ·rw[if_neg q] at h;rw[if_neg om,if_neg om];exact Xoz r s h
def orI:List Int->Int
 |[]=>0
 |x::xs=>if x=0 then orI xs else x
def cmI (a b:Int):Int:=if a<b then -1 else if a>b then 1 else 0
theorem Xqs:∀ a b:List Int,a.length=b.length->orI (List.zipWith cmI a b)=Xde a b
 |[],[],_=>rfl
 |a::r,b::s,h=>by
  simp only[List.length_cons,Nat.add_right_cancel_iff] at h;show orI (cmI a b::List.zipWith cmI r s)=Xde (a::r) (b::s);rw[orI,Xde];unfold cmI;by_cases p:a<b
  ·simp only[if_pos p];rfl
  ·by_cases q:a>b
   ·simp only[if_neg p,if_pos q];rfl
   ·simp only[if_neg p,if_neg q,if_true];exact Xqs r s h
end Go.D
namespace Go.Av
variable [Gls]
open Go.Proofs Go.Shelf Go.RowKit Go.Lib Go.Sort Go.D
theorem cmpOk_lex {α:Type} {c:α->α->Option Int} (K:α->List Int) (n:Nat) (hn:∀ x,(K x).length=n) (hinj:∀ x y,K x=K y->x=y) (hc:∀ x y,c x y=some (Xde (K x) (K y))):CmpOk c:=by
 have hl:∀ x y,ltOf (λx y=>(c x y).getD 0) x y=decide (Xde (K x) (K y)<0):=λx y=>by unfold ltOf;simp only[hc];rfl
 have he:∀ x y,(K x).length=(K y).length:=λx y=>by rw[hn,hn]
 refine⟨λx y=>⟨_,hc x y⟩,⟨λx=>?_,λx y z h1 h2=>?_,λx y z h1 h2=>?_⟩,λx y h1 h2=>?_⟩
 ·rw[hl,Xoy];rfl
 ·rw[hl] at *;simp only[decide_eq_true_eq] at *;exact Xdd _ _ _ (he x y) (he y z) h1 h2
 ·rw[hl] at *;simp only[decide_eq_false_iff_not] at *;intro h3;by_cases h4:Xde (K z) (K y)<0
  ·exact h1 (Xdd _ _ _ (he x z) (he z y) h3 h4)
  ·have:=Xfl _ _ (he y z) h2 h4;rw[<-this] at h3;exact h1 h3
 ·rw[hl] at *;simp only[decide_eq_false_iff_not] at *;exact hinj x y (Xfl _ _ (he x y) h1 h2)
end Go.Av
