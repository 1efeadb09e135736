/- slices.Sort at ints as a contract over the heap. -/
import Derived.Test.YtmkegegjcihooaaGreatAvSort
set_option linter.all false

namespace Go.Av
variable [Gls]
open Go.Proofs Go.Shelf Go.RowKit Go.Lib Go.Sort Go.D
def X2f (l:List Int):List Int:=l.mergeSort λx y=>decide (x<=y)
theorem X8g (l:List Int):(X2f l).length=l.length:=List.length_mergeSort ..
structure Xb4 (P:Program) (f:Nat):Prop where
 sort:∀ (blk off cap:Nat) (zs:List Int) (w:World),Holds (Value.int .i64) w blk off zs.toArray->blk<w.heap.size->zs.length<4611686018427387904 ->
  Calls P f #[.slice (some ⟨blk,off,none⟩) zs.length cap] w λe w'=>e=.returned (.tuple #[])/\∃ n os,w'=grow (putRow (Value.int .i64) (Go.Sort.ahead w n) blk off (zs.mergeSort λx y=>decide (x<=y)).toArray) os
 none:∀ (p:Option Addr) (cap:Nat) (w:World),Calls P f #[.slice p 0 cap] w λe w'=>e=.returned (.tuple #[])/\w'=w
theorem Xqr {w:World} {b off:Nat} {cur:Array Value} {ety:TypeId} (F:Array Int) (h:w.heap[b]?=some (.cells cur ety (0,0))):(putRow (Value.int .i64) w b off F).heap=(w.setRow b (putCells (Value.int .i64) off F cur)).heap:=by
 unfold putRow mapBlock World.setRow;apply Array.ext_getElem?;intro i;simp only[Array.getElem?_modify];by_cases hi:b=i
 ·subst hi;simp[h,onCells]
 ·simp[hi]
theorem X02g {P:Program} {f n o:Nat} {H:X0c} (L:Xb4 P f) {l:List Int} (ho:H o=some { es:=l.map (aI .i64),esz:=1 }) (hb:l.length<4611686018427387904) (hfn:∃ fn code,X1g P f fn code) :
  HC P f [.ref o 0 l.length] H n (λr H' n'=>r=.tup []/\H'=upd H o (some { es:=(X2f l).map (aI .i64),esz:=1 })/\n'=n):=by
 refine⟨hfn,λc vs hI hs hv hok=>?_⟩;obtain⟨v0,hvs⟩:∃ v0,vs=#[v0]:=by
  have:=hv.len;obtain⟨l⟩:=vs;simp only[List.length_cons,List.length_nil,List.size_toArray] at this
  match l,this with
  |[a],_=>exact⟨a,rfl⟩
 subst hvs;have r0:=hv.rel 0 _ _ rfl rfl;obtain⟨e0,hle0⟩:=r0.ref_inv;rw[Nat.zero_mul,Nat.sub_zero] at e0;subst e0;obtain⟨hMo,⟨⟨cur,hcb,hcs,hcc⟩,hfits,hpos,hsame⟩,hoks⟩:=hI.obj o _ ho;simp only at hsame hfits hcc;rw[<-hsame] at hcs hcc hpos;rw[List.length_map] at hfits;have hblk:(c.ρ o).blk<c.w.heap.size:=(Array.getElem?_eq_some_iff.1 hcb).1;have hcurv:∀ (i:Nat) z,l[i]?=some z->cur[i]?=some (.int .i64 z):=by
  intro i z hz;have hx:(l.map (aI .i64))[i]?=some (aI .i64 z):=by rw[List.getElem?_map,hz];rfl
  obtain⟨g1,g2⟩:=hcc i _ hx;obtain⟨u,hu,hr,_⟩:=g2 0 (aI .i64 z) rfl;have:=hr.sc_inv;subst this;simpa using hu
 have hH:Holds (Value.int .i64) c.w (c.ρ o).blk 0 l.toArray:=by
  intro j hj;have hj':j<l.length:=by simpa using hj
  have hx2:l.toArray[j]! = l[j]:=by rw[Array.getElem!_eq_getD,Array.getD_eq_getD_getElem?];simp[hj']
  refine⟨?_,?_⟩
  ·rw[cell_of_row c.w _ _ _ _ _ hcb,Nat.zero_add,hx2];exact hcurv j _ (List.getElem?_eq_getElem hj')
  ·unfold World.frozen?;simp only[hcb];simp
 have hcall:=L.sort (c.ρ o).blk 0 (c.ρ o).cap l c.w hH hblk hb;refine Calls.mono hcall λe w' ⟨he,m,os,hw⟩=>?_;have hw:w'=grow (putRow (Value.int .i64) (Go.Sort.ahead c.w m) (c.ρ o).blk 0 (X2f l).toArray) os:=hw;have hlen:(X2f l).length=l.length:=X8g l;have hnew:∀ (i:Nat) z,(X2f l)[i]?=some z->(putCells (Value.int .i64) 0 (X2f l).toArray cur)[i]?=some (.int .i64 z):=by
  intro i z hz;have hi:i<l.length:=by rw[<-hlen];exact(List.getElem?_eq_some_iff.1 hz).1
  have hic:i<cur.size:=by rw[hcs,Nat.mul_one];omega
  unfold putCells;rw[Array.getElem?_mapIdx,Array.getElem?_eq_getElem hic];simp only[Option.map_some,List.size_toArray,hlen,Nat.zero_add,Nat.zero_le,true_and,Nat.sub_zero];rw[if_pos hi];have hx2:(X2f l).toArray[i]! = z:=by
   rw[Array.getElem!_eq_getD,Array.getD_eq_getD_getElem?];simp[hz]
  rw[hx2]
 have w1h:=Xqr (w:=Go.Sort.ahead c.w m) (off:=0) (X2f l).toArray (show(Go.Sort.ahead c.w m).heap[(c.ρ o).blk]?=_ from hcb);obtain⟨q1,q2,q3,q4⟩:=Xlw (es':=(X2f l).map (aI .i64)) (new:=putCells (Value.int .i64) 0 (X2f l).toArray cur) hI ho (hs o _ ho).1 hcb (by unfold putCells;simp) (by rw[List.length_map,hlen];exact hfits) (by
   rw[<-hsame];intro i e he;rw[List.getElem?_map,Option.map_eq_some_iff] at he;obtain⟨z,hz,rfl⟩:=he;refine⟨rfl,λj a ha=>?_⟩
   cases j with
   |succ j=>have ha:([aI .i64 z]:List AV)[j+1]?=some a:=ha;simp at ha
   |zero =>
    have ha:some (aI .i64 z)=some a:=ha;cases ha
    exact⟨.sc,.int .i64 z,by simpa using hnew i z hz,.sc,rfl⟩)
 have hwh:w'.heap=(c.w.setRow (c.ρ o).blk (putCells (Value.int .i64) 0 (X2f l).toArray cur)).heap++os:=by
  rw[hw];show(putRow (Value.int .i64) (Go.Sort.ahead c.w m) (c.ρ o).blk 0 (X2f l).toArray).heap++os=_;rw[w1h];rfl
 obtain⟨g1,g2,g3⟩:=q2.wastes (w':=w') os hwh (by rw[hw];rfl) (by rw[hw];rfl) ⟨by rw[hw];rfl,by rw[hw];exact Xh9 (Nat.le_add_right _ _)⟩;have hold:∀ b,b<c.w.heap.size->w'.heap[b]?=(c.w.setRow (c.ρ o).blk (putCells (Value.int .i64) 0 (X2f l).toArray cur)).heap[b]?:=λb hb=>by
  rw[hwh,Array.getElem?_append_left (Nat.lt_of_lt_of_le hb q3.size)]
 refine⟨_,_,_,_,{ c with w:=w' },⟨rfl,rfl,rfl⟩,he,rfl,⟨λ_ _=>rfl,λ_ h=>h,λ_ h=>h,λb hb=>?_,rfl⟩,rfl,λb hb=>.inl hb,⟨g3.os.trans q3.os,g3.tape.trans q3.tape,⟨g3.output.1.trans q3.output.1,Nat.le_trans q3.output.2 g3.output.2⟩,Nat.le_trans q3.size g3.size,λb hb hn=>?_⟩,q4,g2,?_,Nat.le_refl n,.tup (by simp) (λi a v ha=>by simp at ha),.tup (by simp)⟩
 ·show w'.heap[b]?=_;rw[hold b (hI.lt b hb)];exact q1.heap b hb
 ·rw[hold b hb];exact q3.block b hb hn
 ·intro q z hz;by_cases hq:q=o
  ·subst hq;rw[Xm] at hz;cases hz;exact⟨rfl,rfl⟩
  ·rw[Xl _ _ hq] at hz;exact hs q z hz
theorem Xxa {P:Program} {f n:Nat} {H:X0c} (L:Xb4 P f) (hfn:∃ fn code,X1g P f fn code) :
  HC P f [.nils] H n (λr H' n'=>r=.tup []/\H'=H/\n'=n):=by
 refine⟨hfn,λc vs hI hs hv hok=>?_⟩;obtain⟨v0,hvs⟩:∃ v0,vs=#[v0]:=by
  have:=hv.len;obtain⟨l⟩:=vs;simp only[List.length_cons,List.length_nil,List.size_toArray] at this
  match l,this with
  |[a],_=>exact⟨a,rfl⟩
 subst hvs;have r0:=hv.rel 0 _ _ rfl rfl;obtain⟨p,e0⟩:=r0.nils_inv;subst e0;refine Calls.mono (L.none p 0 c.w) λe w' ⟨he,hw⟩=>?_;subst hw;exact⟨_,_,_,_,c,⟨rfl,rfl,rfl⟩,he,rfl,.refl c,rfl,λb hb=>.inl hb,.refl c H,λq x hx=>.inr ⟨q,x,hx,rfl⟩,hI,hs,Nat.le_refl n,.tup (by simp) (λi a v ha=>by simp at ha),.tup (by simp)⟩
end Go.Av
