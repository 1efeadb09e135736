/- slices.SortFunc as a contract over the heap. -/
import Derived.Test.YtmkegegjcihooaaGreatLowK
import Derived.Shelf.SlSortCmp.NoneTotal
set_option linter.all false

namespace Go.Av
variable [Gls]
open Go.Proofs Go.Shelf Go.RowKit Go.Lib Go.Sort Go.D
theorem Xur.grown {w w':World} (hGdk:Gls.dk=1) (h:Xur w.heap.size w w'):∃ q os,w'=grow (w.drewN q) os:=by
 refine⟨w'.drawn - w.drawn,w'.heap.extract w.heap.size w'.heap.size,?_⟩;have hh:w'.heap=w.heap++w'.heap.extract w.heap.size w'.heap.size:=by
  apply Array.ext_getElem?;intro i;have hsz:=h.size;by_cases hi:i<w.heap.size
  ·rw[Array.getElem?_append_left hi];exact h.block i hi
  ·rw[Array.getElem?_append_right om,Array.getElem?_extract];split
   ·congr 1;omega
   ·rw[Array.getElem?_eq_none om]
 have hd:w'.drawn=w.drawn+(w'.drawn - w.drawn):=by have:=h.drawn;unfold dr at this;rw[hGdk] at this;omega
 obtain⟨⟨h1,h2,h3,_,_⟩,_⟩:=h;cases w'
 simp only[grow,World.drewN] at *;subst h1 h2 h3;congr 1
section
variable {c:Ctx} {H:X0c} {M:Nat->Prop}
theorem Inv.wastes (hI:Inv c H M) {w':World} (os:Array Go.Obj) (hw:w'.heap=c.w.heap++os) (hos:w'.os=c.w.os) (htape:w'.tape=c.w.tape) (hout:w'.output=c.w.output/\dr c.w<=dr w') :
  c.Le M { c with w:=w' }/\Inv { c with w:=w' } H M/\Fr c H w':=by
 have hold:∀ b,b<c.w.heap.size->w'.heap[b]?=c.w.heap[b]?:=by
  intro b hb;rw[hw,Array.getElem?_append_left hb]
 have hsz:c.w.heap.size<=w'.heap.size:=by rw[hw];simp
 have hle:c.Le M { c with w:=w' }:=⟨λ_ _=>rfl,λ_ h=>h,λ_ h=>h,λb hb=>hold b (hI.lt b hb),rfl⟩;refine⟨hle,⟨?_,hI.sep,hI.stab,λb hb=>Nat.lt_of_lt_of_le (hI.lt b hb) hsz,Nat.le_trans hI.base hsz,hI.own,hI.low,hI.glob.mono hle⟩,⟨hos,htape,hout,hsz,λb hb _=>hold b hb⟩⟩;intro p x hx;obtain⟨h1,⟨⟨cur,hb,hs,hc⟩,h3,h4,h5⟩,h6⟩:=hI.obj p x hx;refine⟨h1,⟨⟨cur,?_,hs,?_⟩,h3,h4,h5⟩,h6⟩
 ·rw[hold _ (Array.getElem?_eq_some_iff.1 hb).1];exact hb
 ·intro i e he;obtain⟨g1,g2⟩:=hc i e he;exact⟨g1,λk a ha=>by obtain⟨v,hv,hr,h7⟩:=g2 k a ha;exact⟨v,hv,hr.mono hle (.inr (h6 e (List.mem_of_getElem? he) a (List.mem_of_getElem? ha))),h7⟩⟩
end
theorem Inv.world {c:Ctx} {H:X0c} {M:Nat->Prop} (hI:Inv c H M) {W:World} (hsz:c.w.heap.size<=W.heap.size) (hold:∀ b,(c.Sa b\/c.So b\/∃ q x,H q=some x/\(c.ρ q).blk=b)->W.heap[b]?=c.w.heap[b]?) :
  c.Le M { c with w:=W }/\Inv { c with w:=W } H M:=by
 have hle:c.Le M { c with w:=W }:=⟨λ_ _=>rfl,λ_ h=>h,λ_ h=>h,λb hb=>hold b (hb.imp id .inl),rfl⟩;refine⟨hle,⟨λp x hx=>?_,hI.sep,hI.stab,λb hb=>Nat.lt_of_lt_of_le (hI.lt b hb) hsz,Nat.le_trans hI.base hsz,hI.own,hI.low,hI.glob.mono hle⟩⟩;obtain⟨h1,⟨⟨cur,hb,hs,hc⟩,h3,h4,h5⟩,h6⟩:=hI.obj p x hx;refine⟨h1,⟨⟨cur,?_,hs,?_⟩,h3,h4,h5⟩,h6⟩
 ·show W.heap[(c.ρ p).blk]?=_;rw[hold _ (.inr (.inr ⟨p,x,hx,rfl⟩))];exact hb
 ·intro i e he;obtain⟨g1,g2⟩:=hc i e he;exact⟨g1,λk a ha=>by obtain⟨v,hv,hr,h7⟩:=g2 k a ha;exact⟨v,hv,hr.mono hle (.inr (h6 e (List.mem_of_getElem? he) a (List.mem_of_getElem? ha))),h7⟩⟩
theorem Xtk {P:Program} {f g n cap:Nat} {H:X0c} {ρ:Ren} (L:SlLaysF0.n6 P ρ) (hf:ρ.f 6=f) {caps:List AV} (hfn:∃ fn code,X1g P f fn code) :
  HC P f [.nils,.fn g caps] H n (λr H' n'=>r=.tup []/\H'=H/\n'=n):=by
 refine⟨hfn,λc vs hI hs hv hok=>?_⟩;obtain⟨v0,v1,hvs⟩:∃ v0 v1,vs=#[v0,v1]:=by
  have:=hv.len;obtain⟨l⟩:=vs;simp only[List.length_cons,List.length_nil,List.size_toArray] at this
  match l,this with
  |[a,b],_=>exact⟨a,b,rfl⟩
 subst hvs;have r0:=hv.rel 0 _ _ rfl rfl;obtain⟨p,e0⟩:=r0.nils_inv;subst e0;have hcall:=AnyF.slices_SortFunc_none L p 0 v1 c.w;rw[hf] at hcall;refine Calls.mono hcall λe w' ⟨he,hw⟩=>?_;subst hw;exact⟨_,_,_,_,c,⟨rfl,rfl,rfl⟩,he,rfl,.refl c,rfl,λb hb=>.inl hb,.refl c H,λq x hx=>.inr ⟨q,x,hx,rfl⟩,hI,hs,Nat.le_refl n,.tup (by simp) (λi a v ha=>by simp at ha),.tup (by simp)⟩
end Go.Av
namespace Go.D
def cmI (a b:Int):Int:=if a<b then -1 else if a>b then 1 else 0
end Go.D
namespace Go.Av
open Go.Proofs Go.Shelf Go.RowKit Go.Lib Go.Sort Go.D
end Go.Av
